import Derived.Test.YtdjojlnnobkliaaGreatDoorTThB
/- Parts of a proof. -/
set_option linter.unusedSimpArgs false
set_option linter.unusedVariables false
set_option linter.unusedSectionVars false
open BitVec renaming ofInt->am
open Bool renaming cond_eq_ite->ao, and_eq_true->av, false_eq_true->ax
open Go renaming Operand->ay, TypeId->aT, FuncId->a0, Program->a1, ResultVar->a3, Value->a4, World->a5, IntKind->a6, BinOp->a7
open Int renaming natCast_nonneg->a8, ofNat_eq_natCast->a9, toNat_natCast->bb
open List renaming getElem?_eq_getElem->be, getElem?_eq_some_iff->bf, mem_iff_getElem->bi, range->bl, replicate->bo, mem_cons->bv, mem_map->bw, map_id->b0, map_cons->b1, nodup_range->b2, getElem?_take->b3, isEmpty_cons->b4, length_take->b5, getElem_zip->cb, of_mem_zip->cc, getElem?_replicate->cd, getElem?_eq_none->ce, mem_of_getElem?->ck, mem_map_of_mem->cx, mem_range'_1->cy, ext_getElem?->c6, map_fst_zip->c9, getElem_mem->da, all_eq_true->db, nodup_cons->dd, mem_append->dg, nodup_nil->dl, rec->dp
open Nat renaming ble->dq, beq->dx, ble_eq_true_of_le->dy, le_refl->dz, beq_refl->ea, pow_succ->eb, mod_lt->ec
open Option renaming ite_none_right_eq_some->ed
open Option.some renaming injEq->ee
open Prod.mk renaming injEq->ei
namespace Go.ag
set_option linter.unusedSectionVars false
variable[Gl]
section
variable{P:a1}{ah:a0->Bool}
def sE:ly->ly->Bool
 | .leaf,.leaf=>true
 | .agg u,.agg v=>dx u v
 |_,_=>false
theorem ka{a b:ly}(h:sE a b=true):a=b/\b≠.bad:=by
 cases a<;>cases b<;>simp_all [sE]
def kE:AK->AK->Bool
 | .exact,.exact| .grow,.grow| .frozen,.frozen| .bytes,.bytes=>true
 |_,_=>false
def A9:AK->Bool
 | .frozen=>false
 |_=>true
theorem HX{k:AK}(h:A9 k=true):k≠.frozen:=by cases k<;>simp_all [A9]
def rP(k:AK)(a:List AV):Bool:=match k.gr,a with
 |true,[]=>false
 |_,_=>true
theorem Aw{k:AK}{a:List AV}(h:rP k a=true):¬(k.gr=true/\a=[]):=by
 rintro⟨b,rfl⟩;simp[rP,b]at h
theorem dX{a b:Nat}(h:dx a b=true):a=b:=Nat.eq_of_beq_eq_true h
theorem dG{a b:Nat}(h:dq a b=true):a<=b:=Nat.le_of_ble_eq_true h
def Ua:a6->a6->Bool:=fun a b=>decide (a=b)
def Ax(P:a1)(l:List Nat):List (Nat×AV)->Bool
 |[]=>true
 |(i,v)::r=>(match l[i]? with
  |some n=>dx (bU P (aa v)) n&&(match aa v with
   | .bad=>false
   |_=>true)
  |none=>false)&&Ax P l r
theorem Gk{l:List Nat}:∀{r:List (Nat×AV)},Ax P l r=true->n9 P l r
 |[],_=>trivial
 |(i,v)::r,h=>by
  simp only[Ax,av]at h;refine⟨?_,Gk h.2⟩;have a:=h.1
  split at a
  ·rename_i n hn;simp only[av]at a;refine⟨n,hn,dX a.1,fun b=>?_⟩;rw[b]at a;simp at a
  ·simp at a
def tv(P:a1)(sz:Nat):List AV->Bool
 |[]=>true
 |v::r=>(match aa v with
  | .bad=>false
  |s=>dx (bU P s) sz)&&tv P sz r
theorem xS{sz:Nat}:∀{r:List AV},tv P sz r=true->fZ P sz r
 |[],_=>trivial
 |v::r,h=>by
  simp only[tv,av]at h;refine⟨?_,xS h.2⟩;have a:=h.1
  split at a
  ·simp at a
  ·rename_i b;exact⟨b,dX a⟩
def IY(P:a1)(T:aT)(H:al)(a:AV):Option aZ:=
 match a with
 | .ptr b path=>match H[b]? with
  |some (.box fz t)=>match fX t path with
   |some s=>bif sE (kindOf P T) (aa s)then some {v:=s,ar:=[(b,.box fz t)]}else none
   |none=>none
  |_=>none
 | .cA b az ak i path=>match H[b]? with
  |some (.arr k d c es)=>bif dx az d&&dx ak c then match es[i]? with
   |some x=>match fX x path with
    |some s=>bif sE (kindOf P T) (aa s)then some {v:=s,ar:=[(b,.arr k d c es)]}else none
    |none=>none
   |none=>none
   else none
  |_=>none
 | .p (.cM t)=>bif sE (kindOf P T) (aK t)then some {v:=.p t}else none
 |_=>none
theorem avQ{T:aT}{H:al}{a:AV}{e:aZ}{K:aZ->Prop}(h:IY P T H a=some e)(hk:K e):rB P T H a K:=by
 unfold IY at h;unfold rB
 split at h
 ·split at h
  ·split at h
   ·rename_i hs;simp only[ao,ed,ee]at h;rename_i c _ _;obtain⟨b,rfl⟩:=h;simp only[c,hs];exact⟨(ka b).1,hk⟩
   ·simp at h
  ·simp at h
 ·split at h
  ·rename_i c;simp only[ao,ed,av]at h;obtain⟨⟨b,d⟩,h⟩:=h
   split at h
   ·rename_i hx
    split at h
    ·rename_i hs;simp only[ed,ee]at h;obtain⟨f,rfl⟩:=h;obtain⟨hi,rfl⟩:=bf.1 hx;simp only[c];refine⟨dX b,dX d,hi,?_⟩;simp only[hs];exact⟨(ka f).1,hk⟩
    ·simp at h
   ·simp at h
  ·simp at h
 ·simp only[ao,ed,ee]at h;obtain⟨b,rfl⟩:=h;exact⟨(ka b).1,hk⟩
 ·simp at h
def HN(P:a1)(T:aT)(H:al)(a x:AV):Option aZ:=
 bif sE (kindOf P T) (aa x)then match a with
 | .ptr b path=>match H[b]? with
  |some (.box false t)=>match fX t path,ia t path x with
   |some s,some d=>bif sE (aa s) (aa x)then some {v:=.p (.aC []),ar:=[(b,.box false t)],aM:=[(b,.box false d)]}else none
   |_,_=>none
  |_=>none
 | .cA b az ak i path=>match H[b]? with
  |some (.arr k e c es)=>bif dx az e&&(dx ak c&&A9 k)then match es[i]? with
   |some y=>match fX y path,ia y path x with
    |some s,some d=>bif sE (aa s) (aa x)then some {v:=.p (.aC []),ar:=[(b,.arr k e c es)],aM:=[(b,.arr k e c (es.set i d))]}else none
    |_,_=>none
   |none=>none
   else none
  |_=>none
 |_=>none
 else none
theorem ZR{T:aT}{H:al}{a x:AV}{e:aZ}{K:aZ->Prop}(h:HN P T H a x=some e)(hk:K e):re P T H a x K:=by
 unfold HN at h;unfold re;simp only[ao,ed]at h;obtain⟨f,h⟩:=h;refine⟨(ka f).1,(ka f).2,?_⟩
 split at h
 ·split at h
  ·rename_i c
   split at h
   ·rename_i hs d;simp only[ed,ee]at h;obtain⟨b,rfl⟩:=h;simp only[c,hs,d];exact⟨(ka b).1,hk⟩
   ·simp at h
  ·simp at h
 ·split at h
  ·rename_i c;simp only[ed,av]at h;obtain⟨⟨b,g,i⟩,h⟩:=h
   split at h
   ·rename_i k
    split at h
    ·rename_i hs d;simp only[ed,ee]at h;obtain⟨j,rfl⟩:=h;obtain⟨hi,rfl⟩:=bf.1 k;simp only[c];refine⟨dX b,dX g,HX i,hi,?_⟩;simp only[hs,d];exact⟨(ka j).1,hk⟩
    ·simp at h
   ·simp at h
  ·simp at h
 ·simp at h
def II(op:a7)(k:a6)(a b:Int):Option PV:=
 match op with
 | .add=>some (.int k (k.wrap (a+b)))
 | .sub=>some (.int k (k.wrap (a-b)))
 | .mul=>some (.int k (k.wrap (a*b)))
 | .quo=>match b with
  | .ofNat 0=>none
  |b=>some (.int k (k.wrap (a.tdiv b)))
 | .rem=>match b with
  | .ofNat 0=>none
  |b=>some (.int k (a.tmod b))
 | .and=>some (.int k (k.wrap (am k.bits a&&&am k.bits b).toNat))
 | .or=>some (.int k (k.wrap (am k.bits a|||am k.bits b).toNat))
 | .xor=>some (.int k (k.wrap (am k.bits a^^^am k.bits b).toNat))
 | .andNot=>some (.int k (k.wrap (am k.bits a&&&~~~am k.bits b).toNat))
 | .eql=>some (.bool (a==b))
 | .neq=>some (.bool (a !=b))
 | .lss=>some (.bool (decide (a<b)))
 | .leq=>some (.bool (decide (a<=b)))
 | .gtr=>some (.bool (decide (a>b)))
 | .geq=>some (.bool (decide (a>=b)))
 | .shl=>match b with
  | .ofNat _=>some (.int k (k.wrap (a*2^(min b.toNat k.bits))))
  |_=>none
 | .shr=>match b with
  | .ofNat _=>some (.int k (a.fdiv (2^(min b.toNat k.bits))))
  |_=>none
theorem aGZ{op:a7}{k:a6}{a b:Int}{v:PV}{K:PV->Prop}(h:II op k a b=some v)(hk:K v):tt op k a b K:=by
 cases op<;>simp only[II]at h<;>simp only[tt]
 case quo|rem=>
  split at h
  ·simp at h
  ·rename_i d;simp only[ee]at h;subst h;exact⟨fun c=>d (by rw[c];rfl),hk⟩
 case shl|shr=>
  split at h
  ·simp only[ee]at h;subst h;exact⟨a8 _,hk⟩
  ·simp at h
 all_goals (simp only[ee]at h;subst h;exact hk)
def Iu(P:a1)(op:a7)(T:aT)(c:Bool)(H:al)(x y:AV):Option PV:=
 match x,y with
 | .p (.int k a),.p (.int d b)=>bif Ua k d||(match op with
  | .shl| .shr=>true
  |_=>false)then II op k a b else none
 | .p (.str a),.p (.str b)=>match op with
  | .add=>bif dq (a.length+b.length) 9223372036854775807 then some (.str (a++b))else none
  | .eql=>some (.bool (a==b))
  | .neq=>some (.bool (!(a==b)))
  | .lss=>some (.bool (kU a b))
  | .leq=>some (.bool (kU a b||a==b))
  | .gtr=>some (.bool (!(kU a b||a==b)))
  | .geq=>some (.bool (!(kU a b)))
  |_=>none
 | .p (.bool a),.p (.bool b)=>bif uZ P T then match op with
  | .eql=>some (.bool (a==b))
  | .neq=>some (.bool (!(a==b)))
  |_=>none
  else none
 | .p (.st u fs),.p (.st u' gs)=>bif qp P T then match gE P 9 T (.st u fs) (.st u' gs),op with
  |some r,.eql=>some (.bool r)
  |some r,.neq=>some (.bool !r)
  |_,_=>none
  else none
 |x,y=>match et P T c y with
  |some k=>match dB H k x,op with
   |some r,.eql=>some (.bool r)
   |some r,.neq=>some (.bool !r)
   |_,_=>none
  |none=>none
theorem aCw{op:a7}{T:aT}{c:Bool}{H:al}{x y:AV}{v:PV}{K:PV->Prop}(h:Iu P op T c H x y=some v)(hk:K v):mI P op T c H x y K:=by
 unfold Iu at h;unfold mI
 split at h
 ·simp only[ao,ed,Bool.or_eq_true,Ua,decide_eq_true_eq]at h;refine⟨?_,aGZ h.2 hk⟩;rcases h.1 with b|b
  ·exact .inl b
  ·cases op<;>simp at b<;>simp
 ·split at h<;>simp only[tq]
  ·simp only[ao,ed,ee]at h;obtain⟨b,rfl⟩:=h;exact⟨by have:=dG b;omega,hk⟩
  ·simp only[ee]at h;subst h;exact hk
  ·simp only[ee]at h;subst h;exact hk
  ·simp only[ee]at h;subst h;exact hk
  ·simp only[ee]at h;subst h;exact hk
  ·simp only[ee]at h;subst h;exact hk
  ·simp only[ee]at h;subst h;exact hk
  ·simp at h
 ·simp only[ao,ed]at h;refine⟨h.1,?_⟩;have a:=h.2
  split at a
  ·simp only[ee]at a;subst a;exact hk
  ·simp only[ee]at a;subst a;exact hk
  ·simp at a
 ·simp only[ao,ed]at h;refine⟨h.1,?_⟩;have a:=h.2
  split at a
  ·rename_i d;simp only[ee]at a;subst a;simp only[d];exact hk
  ·rename_i d;simp only[ee]at a;subst a;simp only[d];exact hk
  ·simp at a
 ·split at h
  case h_2=>simp at h
  rename_i k f;show mI P op T c H x y _;rw[OT f];obtain⟨r,e,d⟩:∃r,dB H k x=some r/\((op=.eql/\v=.bool r)\/(op=.neq/\v=.bool !r)):=by
   revert h;generalize dB H k x=q;intro h;cases q with
   |none=>simp at h
   |some r=>cases op<;>simp at h<;>exact⟨r,rfl,by simp[h]⟩
  rw[e];rcases d with⟨rfl,rfl⟩|⟨rfl,rfl⟩<;>exact hk
def F9(P:a1)(T:aT)(a:AV)(f:Nat):Option aZ:=
 match fB P T with
 |some (u,n)=>bif dq (f+1) n then match a with
  | .ptr b path=>some {v:=.ptr b (path++[(u,f)])}
  | .cA b az ak i path=>some {v:=.cA b az ak i (path++[(u,f)])}
  | .p (.cM t)=>bif sE (aK t) (.agg u)then match(cm t)[f]? with
   |some g=>some {v:=.p (.cM g)}
   |none=>none
   else none
  |_=>none
  else none
 |_=>none
theorem Xu{T:aT}{a:AV}{f:Nat}{e:aZ}{K:aZ->Prop}(h:F9 P T a f=some e)(hk:K e):qU P T a f K:=by
 unfold F9 at h;unfold qU
 split at h
 ·rename_i hs;simp only[ao,ed]at h;obtain⟨b,h⟩:=h;simp only[hs];refine⟨by have:=dG b;omega,?_⟩
  split at h
  ·simp only[ee]at h;subst h;exact hk
  ·simp only[ee]at h;subst h;exact hk
  ·simp only[ed]at h;obtain⟨c,h⟩:=h
   split at h
   ·rename_i d;simp only[ee]at h;subst h;simp only[d];exact⟨(ka c).1,hk⟩
   ·simp at h
  ·simp at h
 ·simp at h
def oE(a:Option Nat)(b:Nat):Bool:=match a with
 |some x=>dx x b
 |none=>false
theorem AN{a:Option Nat}{b:Nat}(h:oE a b=true):a=some b:=by
 unfold oE at h;split at h
 ·rw[dX h]
 ·simp at h
def F6(P:a1)(T:aT)(H:al)(x i:AV):Option aZ:=
 match i with
 | .p (.int _ (.ofNat i))=>match x with
  | .p (.dw _ es)=>match es[i]? with
   |some y=>bif oE (c7 P T) (bU P (aK y))then some {v:=.p (.cM y)}else none
   |none=>none
  | .p (.seq es)=>match es[i]? with
   |some y=>bif oE (c7 P T) (bU P (aK y))then some {v:=.p (.cM y)}else none
   |none=>none
  | .sl b az ak off len=>bif oE (c7 P T) ak&&dq (i+1) len then match H[b]? with
   |some (.arr k c a es)=>bif dx az c&&(dx ak a&&rP k es)then some {v:=.cA b az ak (off+i) [],ar:=[(b,.arr k c a es)]}else none
   |_=>none
   else none
  | .ptr b path=>match jr P T with
   |some (u,n)=>bif dq (i+1) n then some {v:=.ptr b (path++[(u,i)])}else none
   |_=>none
  | .cA b az ak j path=>match jr P T with
   |some (u,n)=>bif dq (i+1) n then some {v:=.cA b az ak j (path++[(u,i)])}else none
   |_=>none
  | .p (.cM t)=>match jr P T with
   |some (u,n)=>bif sE (aK t) (.agg u)&&dq (i+1) n then match(cm t)[i]? with
    |some g=>some {v:=.p (.cM g)}
    |none=>none
    else none
   |_=>none
  |_=>none
 |_=>none
theorem XH{T:aT}{H:al}{x i:AV}{e:aZ}{K:aZ->Prop}(h:F6 P T H x i=some e)(hk:K e):qS P T H x i K:=by
 unfold F6 at h;unfold qS
 split at h
 case h_2=>simp at h
 rename_i i;refine⟨a8 _,?_⟩;simp only[a9,bb]
 split at h
 ·split at h
  ·rename_i y d;simp only[ao,ed,ee]at h;obtain⟨a,rfl⟩:=h;obtain⟨hi,rfl⟩:=bf.1 d;exact⟨hi,AN a,hk⟩
  ·simp at h
 ·split at h
  ·rename_i y d;simp only[ao,ed,ee]at h;obtain⟨a,rfl⟩:=h;obtain⟨hi,rfl⟩:=bf.1 d;exact⟨hi,AN a,hk⟩
  ·simp at h
 ·simp only[ao,ed,av]at h;obtain⟨⟨a,c⟩,h⟩:=h;refine⟨AN a,by have:=dG c;omega,?_⟩
  split at h
  ·rename_i k;simp only[ed,ee]at h;obtain⟨⟨f,g,j⟩,rfl⟩:=h;simp only[k];exact⟨dX f,dX g,Aw j,hk⟩
  ·simp at h
 ·split at h
  ·rename_i b;simp only[ao,ed,ee]at h;obtain⟨a,rfl⟩:=h;simp only[b];exact⟨by have:=dG a;omega,hk⟩
  ·simp at h
 ·split at h
  ·rename_i b;simp only[ao,ed,ee]at h;obtain⟨a,rfl⟩:=h;simp only[b];exact⟨by have:=dG a;omega,hk⟩
  ·simp at h
 ·split at h
  ·rename_i b;simp only[ao,ed,av]at h;obtain⟨⟨a,c⟩,h⟩:=h
   split at h
   ·rename_i l;simp only[ee]at h;subst h;simp only[b,l];exact⟨(ka a).1,by have:=dG c;omega,hk⟩
   ·simp at h
  ·simp at h
 ·simp at h
def HF(P:a1)(T X:aT)(H:al)(s x:AV):Option aZ:=
 match c7 P T,jb H x with
 |some sz,some xs=>bif jO P X&&((cF P (fy P T)).isSome&&tv P sz xs)then
  match s with
  | .p .aI=>match xs with
   |[]=>some {v:=s,ar:=ez H x}
   |y::r=>bif dq (y::r).length dH then some {v:=.sl H.length 0 sz 0 (y::r).length,ar:=ez H x,aY:=[.arr (gk P T) 0 sz (y::r)]}else none
  | .p (.dw full es)=>bif tv P sz (es.map .p)then match xs with
   |[]=>some {v:=s,ar:=ez H x}
   |y::r=>bif full&&dq (es.length+(y::r).length) dH then
    some {v:=.sl H.length 0 sz 0 (es.length+(y::r).length),ar:=ez H x,aY:=[.arr (gk P T) 0 sz (es.map .p++(y::r))]}else none
   else none
  | .sl b az ak off len=>match H[b]? with
   |some (.arr k c a es)=>bif dx az c&&(dx ak a&&(dx ak sz&&dq (off+len) es.length))then
    match xs with
    |[]=>some {v:=s,ar:=(b,.arr k c a es)::ez H x}
    |y::r=>bif dq (es.length+(y::r).length) dH then match k with
     | .frozen=>none
     | .exact=>bif dq (off+len+(y::r).length) es.length then
      some {v:=.sl b az ak off (len+(y::r).length),ar:=(b,.arr .exact c a es)::ez H x,aM:=[(b,.arr .exact az ak (es.take (off+len)++(y::r)++es.drop (off+len+(y::r).length)))]}
      else some {v:=.sl H.length 0 sz 0 (len+(y::r).length),ar:=(b,.arr .exact c a es)::ez H x,aY:=[.arr (gk P T) 0 sz ((es.drop off).take len++(y::r))]}
     | .grow=>bif dx off 0 then some {v:=.sl b (az+1) ak 0 (len+(y::r).length),ar:=(b,.arr .grow c a es)::ez H x,aM:=[(b,.arr .grow (az+1) ak (es.take len++(y::r)))]}else none
     | .bytes=>bif dx off 0&&dx (fy P T) Gl.u8 then some {v:=.sl b (az+1) ak 0 (len+(y::r).length),ar:=(b,.arr .bytes c a es)::ez H x,aM:=[(b,.arr .bytes (az+1) ak (es.take len++(y::r)))]}else none
     else none
    else none
   |_=>none
  |_=>none
  else none
 |_,_=>none
theorem Wu{T X:aT}{H:al}{s x:AV}{e:aZ}{K:aZ->Prop}(h:HF P T X H s x=some e)(hk:K e):qW P T X H s x K:=by
 unfold HF at h;unfold qW
 split at h
 case h_2=>simp at h
 rename_i sz r n p;simp only[ao,ed,av]at h;obtain⟨⟨g,j,k⟩,h⟩:=h;simp only[n,p];refine⟨g,j,xS k,?_⟩
 split at h
 ·split at h
  ·simp only[ee]at h;subst h;simpa using hk
  ·simp only[ed,ee]at h;obtain⟨a,rfl⟩:=h;simp only[b4,ax,if_false];exact⟨dG a,hk⟩
 ·simp only[ed]at h;obtain⟨a,h⟩:=h;refine⟨xS a,?_⟩
  split at h
  ·simp only[ee]at h;subst h;simpa using hk
  ·simp only[ed,ee]at h;obtain⟨⟨b,c⟩,rfl⟩:=h;simp only[b4,ax,if_false];exact⟨b,dG c,hk⟩
 ·split at h
  case h_2=>simp at h
  rename_i o;simp only[ed]at h;obtain⟨⟨a,b,c,l⟩,h⟩:=h;simp only[o];refine⟨dX a,dX b,dX c,dG l,?_⟩
  split at h
  ·simp only[ee]at h;subst h;simpa using hk
  ·simp only[ed]at h;obtain⟨m,h⟩:=h;simp only[b4,ax,if_false];refine⟨dG m,?_⟩
   split at h
   ·simp at h
   ·split at h
    ·rename_i f;simp only[ee]at h;subst h;simp only[dG f,if_true];exact hk
    ·rename_i f;simp only[ee]at h;subst h;rw[if_neg (fun q=>f (dy q))];exact hk
   ·simp only[ed,ee]at h;obtain⟨d,rfl⟩:=h;exact⟨dX d,(fun h=>by cases h),hk⟩
   ·simp only[ed,ee]at h;obtain⟨⟨d,i⟩,rfl⟩:=h;exact⟨dX d,fun _=>dX i,hk⟩
 ·simp at h
end
section
variable{P:a1}{ah:a0->Bool}
def lK(x:Option AV)(d:Nat):Option Nat:=
 match x with
 |none=>some d
 |some (.p (.int _ (.ofNat i)))=>some i
 |_=>none
theorem mB{x:Option AV}{d n:Nat}{K:Nat->Prop}(h:lK x d=some n)(hk:K n):iO x d K:=by
 unfold lK at h;unfold iO
 split at h
 ·simp only[ee]at h;subst h;exact hk
 ·simp only[ee]at h;subst h;exact⟨a8 _,hk⟩
 ·simp at h
def HP(P:a1)(T:aT)(H:al)(x:AV)(lo hi e:Option AV):Option aZ:=
 match e with
 |some _=>none
 |none=>match x with
  | .p (.str s)=>match lK hi s.length,lK lo 0 with
   |some h,some l=>bif jM P T&&(dq h s.length&&dq l h)then some {v:=.p (.str ((s.take h).drop l))}else none
   |_,_=>none
  | .p .aI=>match lK hi 0,lK lo 0 with
   |some h,some l=>bif (c7 P T).isSome&&(dq h 0&&dq l h)then some {v:=x}else none
   |_,_=>none
  | .p (.dw full es)=>match lK hi es.length,lK lo 0,c7 P T with
   |some h,some l,some sz=>bif dq h es.length&&(dq l h&&tv P sz (es.map .p))then some {v:=.p (.dw (full&&h==es.length) ((es.take h).drop l))}else none
   |_,_,_=>none
  | .p (.seq es)=>match lK hi es.length,lK lo 0,c7 P T with
   |some h,some l,some sz=>bif dq h es.length&&(dq l h&&tv P sz (es.map .p))then some {v:=.p (.seq ((es.take h).drop l))}else none
   |_,_,_=>none
  | .sl b az ak off len=>match H[b]? with
   |some (.arr k c a es)=>match lK hi len,lK lo 0 with
    |some h,some l=>bif dx az c&&(dx ak a&&(oE (c7 P T) ak&&(rP k es&&(dq (off+len) es.length&&(dq (off+h) es.length&&dq l h)))))then
     match l with
     |0=>some {v:=.sl b az ak off h,ar:=[(b,.arr k c a es)]}
     |d+1=>bif dx (d+1) h then some {v:=.p (.dw false []),ar:=[(b,.arr k c a es)]}else some {v:=.sl b az ak (off+(d+1)) (h-(d+1)),ar:=[(b,.arr k c a es)]}
     else none
    |_,_=>none
   |_=>none
  |_=>none
theorem ZV{T:aT}{H:al}{x:AV}{lo hi j:Option AV}{e:aZ}{K:aZ->Prop}(h:HP P T H x lo hi j=some e)(hk:K e):rh P T H x lo hi j K:=by
 unfold HP at h;unfold rh
 split at h
 ·simp at h
 refine⟨rfl,?_⟩
 split at h
 ·split at h
  case h_2=>simp at h
  rename_i a b;simp only[ao,ed,av,ee]at h;obtain⟨⟨c,d,f⟩,rfl⟩:=h;exact⟨c,mB a (mB b ⟨dG d,dG f,hk⟩)⟩
 ·split at h
  case h_2=>simp at h
  rename_i a b;simp only[ao,ed,av,ee]at h;obtain⟨⟨c,d,f⟩,rfl⟩:=h;exact⟨c,mB a (mB b ⟨dG d,dG f,hk⟩)⟩
 ·split at h
  case h_2=>simp at h
  rename_i a b c;simp only[ao,ed,av,ee]at h;obtain⟨⟨d,f,g⟩,rfl⟩:=h;refine mB a (mB b ⟨dG d,dG f,?_⟩);simp only[c];exact⟨xS g,hk⟩
 ·split at h
  case h_2=>simp at h
  rename_i a b c;simp only[ao,ed,av,ee]at h;obtain⟨⟨d,f,g⟩,rfl⟩:=h;refine mB a (mB b ⟨dG d,dG f,?_⟩);simp only[c];exact⟨xS g,hk⟩
 ·split at h
  case h_2=>simp at h
  rename_i n
  split at h
  case h_2=>simp at h
  rename_i a b;simp only[ao,ed,av]at h;obtain⟨⟨c,d,f,g,k,l,m⟩,h⟩:=h;simp only[n];refine⟨dX c,dX d,AN f,Aw g,dG k,mB a (mB b ⟨dG l,dG m,?_⟩)⟩
  split at h
  ·simp only[ee]at h;subst h;simpa using hk
  ·rw[if_neg o_]
   split at h
   ·rename_i i;simp only[ee]at h;subst h;rw[if_pos (dX i)];exact hk
   ·rename_i i;simp only[ee]at h;subst h;rw[if_neg (fun e=>i (by rw[<-e];exact ea _))];exact hk
 ·simp at h
def G7(P:a1)(T:aT)(H:al)(x:AV)(lo hi:Option AV)(m:AV):Option aZ:=
 match x with
 | .sl b az ak off len=>match H[b]? with
  |some (.arr k c a es)=>match lK hi len,lK lo 0,lK (some m) 0 with
   |some h,some l,some m=>bif dx az c&&(dx ak a&&((c7 P T).isSome&&(rP k es&&(dq (off+len) es.length&&(hi.isSome&&(dq (off+m) es.length&&(dq h m&&dq l h)))))))then
    some {v:=.p .undef,ar:=[(b,.arr k c a es)]}else none
   |_,_,_=>none
  |_=>none
 |_=>none
theorem Zy{T:aT}{H:al}{x:AV}{lo hi:Option AV}{m:AV}{e:aZ}{K:aZ->Prop}(h:G7 P T H x lo hi m=some e)(hk:K e):uI P T H x lo hi m K:=by
 unfold G7 at h;unfold uI
 split at h
 case h_2=>simp at h
 split at h
 case h_2=>simp at h
 rename_i d
 split at h
 case h_2=>simp at h
 rename_i a b c;simp only[ao,ed,av,ee]at h;obtain⟨⟨g1,g2,g3,g4,g5,g6,g7,g8,g9⟩,rfl⟩:=h;simp only[d];exact⟨dX g1,dX g2,g3,Aw g4,dG g5,g6,mB a (mB b (mB c ⟨dG g7,dG g8,dG g9,hk⟩))⟩
def DL(ok:Bool)(z:PV)(r:Option PV):PV:=
 match r with
 |some v=>bif ok then .aC [v,.bool true]else v
 |none=>bif ok then .aC [z,.bool false]else z
def aPe(ok:Bool)(z:PV)(r:Option AV):AV:=
 match r with
 |some v=>bif ok then .aC [v,.p (.bool true)]else v
 |none=>.p (bif ok then .aC [z,.bool false]else z)
def QW(P:a1)(T:aT)(H:al)(x i:AV)(ok:Bool):Option aZ:=
 match ld P T,i with
 |some (a,E),.p key=>match cF P E with
  |some z=>bif fY P a key then match x with
   | .p .gu=>some {v:=.p (DL ok z none)}
   | .p (.fu es)=>match gp P a es key with
    |some r=>some {v:=.p (DL ok z r)}
    |none=>none
   | .map b=>match H[b]? with
    |some (.map fz es)=>match gp P a es key with
     |some r=>some {v:=.p (DL ok z r),ar:=[(b,.map fz es)]}
     |none=>none
    |some (.dF ks vs)=>bif nq key then match lB P a ks vs key with
     |some r=>some {v:=aPe ok z r,ar:=[(b,.dF ks vs)]}
     |none=>none
     else none
    |_=>none
   |_=>none
   else none
  |none=>none
 |_,_=>none
def El(P:a1)(c:aT)(b:Nat)(key:PV)(x:AV)(a:Obj):Option aZ:=
 match sf a with
 |some (ks,vs)=>bif nq key then match lB P c ks vs key with
  |some none=>some {v:=.p (.aC []),ar:=[(b,a)],aM:=[(b,.dF (ks++[key]) (vs++[x]))]}
  |_=>none
  else none
 |none=>none
theorem Fb{P:a1}{a:aT}{b:Nat}{key:PV}{x:AV}{c:Obj}{e:aZ}{K:aZ->Prop}(h:El P a b key x c=some e)(hk:K e):pO P a b key x c K:=by
 unfold El at h;unfold pO
 split at h
 ·rename_i ks vs f;simp only[ao,ed]at h;obtain⟨d,h⟩:=h
  split at h
  ·rename_i g;simp only[ee]at h;subst h;simp only[f];exact⟨d,g,hk⟩
  ·cases h
 ·cases h
def QT(P:a1)(T:aT)(H:al)(m k x:AV):Option aZ:=
 match ld P T,m,k with
 |some (a,_),.map b,.p key=>bif fY P a key then match H[b]? with
  |some (.map false es)=>match x with
   | .p v=>match oO P a es key with
    |some _=>some {v:=.p (.aC []),ar:=[(b,.map false es)],aM:=[(b,.map false (gI es key v))]}
    |none=>none
   |x=>El P a b key x (.map false es)
  |some (.dF ks vs)=>El P a b key x (.dF ks vs)
  |_=>none
  else none
 |_,_,_=>none
def Ux(H:al)(it:AV):Option aZ:=
 match it with
 | .ptr b []=>match H[b]? with
  |some (.dZ s pos)=>bif dq (pos+1) s.length then
   some {v:=.p (.aC [.bool true,.int .i64 pos,.int .i32 (Utf8.decode (iH s) pos).1]),ar:=[(b,.dZ s pos)],aM:=[(b,.dZ s (pos+(Utf8.decode (iH s) pos).2))]}
   else some {v:=.p (.aC [.bool false]),ar:=[(b,.dZ s pos)]}
  |_=>none
 |_=>none
def PI(P:a1)(H:al)(b:Builtin)(c:Array aT)(args:List AV):Option aZ:=
 match b,args with
 | .len,[x]=>match lenOf H x with
  |some (n,ar)=>bif jj P (c.getD 0 0) x&&dq 1 c.size then some {v:=.p (.int .i64 n),ar}else none
  |none=>none
 | .append,[s,x]=>bif dx c.size 2 then HF P (c.getD 0 0) (c.getD 1 0) H s x else none
 | .min,.p (.int k a)::r=>match oh k false r a with
  |some n=>some {v:=.p (.int k n)}
  |none=>none
 | .max,.p (.int k a)::r=>match oh k true r a with
  |some n=>some {v:=.p (.int k n)}
  |none=>none
 | .copy,[d,x]=>match c7 P (c.getD 0 0),d,jb H x with
  |some sz,.sl b az ak off len,some xs=>bif dx ak sz&&(tv P sz xs&&dx c.size 2)then match H[b]? with
   |some (.arr k f e es)=>bif dx az f&&(dx ak e&&(A9 k&&(dq (off+len) es.length&&rP k es)))then
    some {v:=.p (.int .i64 (min xs.length len:Nat)),ar:=(b,.arr k f e es)::ez H x,aM:=[(b,.arr k f e (es.take off++xs.take (min xs.length len)++es.drop (off+min xs.length len)))]}
    else none
   |_=>none
   else none
  |_,_,_=>none
 | .cap,[x]=>match D0 H x with
  |some (n,ar)=>bif jj P (c.getD 0 0) x&&dq 1 c.size then some {v:=.p (.int .i64 n),ar}else none
  |none=>none
 | .clear,[x]=>match x with
  | .p .aI=>bif jj P (c.getD 0 0) x&&dq 1 c.size then some {v:=.p (.aC [])}else none
  | .sl b az ak off len=>match c7 P (c.getD 0 0),cF P (fy P (c.getD 0 0)),H[b]? with
   |some sz,some z,some (.arr k f e es)=>bif dx az f&&(dx ak e&&(dx ak sz&&(dx (bU P (aK z)) sz&&(A9 k&&(dq (off+len) es.length&&(rP k es&&(dq 1 c.size&&dq 1 len)))))))then
    some {v:=.p (.aC []),ar:=[(b,.arr k f e es)],aM:=[(b,.arr k f e (es.take off++bo len (.p z)++es.drop (off+len)))]}else none
   |_,_,_=>none
  |_=>none
 | .unsafeSliceData,[x]=>match x with
  | .p .aI=>some {v:=.p .eO}
  | .sl b az ak off len=>match H[b]? with
   |some (.arr k f e es)=>bif dx az f&&dx ak e then
    bif rP k es then(bif dq 1 len&&dq (off+len) es.length then some {v:=.cA b az ak off [],ar:=[(b,.arr k f e es)]}else none)
    else some {v:=.p .eO,ar:=[(b,.arr k f e es)]}
    else none
   |_=>none
  |_=>none
 | .unsafeString,[x,.p (.int .i64 (.ofNat n))]=>match x with
  | .p .eO=>bif dx n 0&&dx c.size 2 then some {v:=.p (.str [])}else none
  | .cA b az ak i []=>match H[b]? with
   |some (.arr .bytes f e es)=>bif dx az f&&(dx ak e&&(dx ak 1&&(dx i 0&&(dq 1 n&&(dq n es.length&&(dq n 9223372036854775807&&(dx c.size 2&&(oE (ptrTo P (c.getD 0 0)) Gl.u8&&dx (P.cellsOf Gl.u8) 1))))))))then
    match bytesOf (es.take n)with
    |some l=>some {v:=.p (.str l),ar:=[(b,.arr .bytes f e es)],aM:=[(b,.dead)]}
    |none=>none
    else none
   |_=>none
  |_=>none
 |_,_=>none
def Es(P:a1)(ah:a0->Bool)(o:Oper)(ρ:ay->AV)(H:al):Option aZ:=
 match o.op with
 | .move x| .assign x=>some {v:=ρ x}
 | .pick c a b=>match ρ c with
  | .p (.bool t)=>some {v:=bif t then ρ a else ρ b}
  |_=>none
 | .alloc T=>match cF P T with
  |some z=>bif sE (kindOf P T) (aK z)&&lj T (aK z)then some {v:=.ptr H.length [],aY:=[.box false (.p z)]}else none
  |none=>none
 | .box T x=>bif sE (kindOf P T) (aa (ρ x))&&lj T (aa (ρ x))then some {v:=.ptr H.length [],aY:=[.box false (ρ x)]}else none
 | .build T parts=>match kindOf P T,cF P T with
  | .agg u,some z=>match dS P u with
   |some l=>bif sE (aK z) (.agg u)&&Ax P l (parts.toList.map fun(i,x)=>(i,ρ x))then some {v:=jv u (jK ((cm z).map .p) (parts.toList.map fun(i,x)=>(i,ρ x)))}else none
   |none=>none
  |_,_=>none
 | .buildSlice T n parts=>match c7 P T,cF P (fy P T)with
  |some sz,some z=>bif dx (bU P (aK z)) sz&&(dq (n*sz) 1000000&&Ax P (bo n sz) (parts.toList.map fun(i,x)=>(i,ρ x)))then
   some {v:=.sl H.length 0 sz 0 n,aY:=[.arr .exact 0 sz (jK (bo n (.p z)) (parts.toList.map fun(i,x)=>(i,ρ x)))]}else none
  |_,_=>none
 | .load T a=>IY P T H (ρ a)
 | .store T a x=>HN P T H (ρ a) (ρ x)
 | .binOp op T x y _=>match Iu P op T (pC y) H (ρ x) (ρ y)with
  |some v=>some {v:=.p v,ar:=ez H (ρ x)}
  |none=>none
 | .unOp op _ x=>match op,ρ x with
  | .not,.p (.bool b)=>some {v:=.p (.bool (!b))}
  | .neg,.p (.int k n)=>some {v:=.p (.int k (k.wrap (0-n)))}
  | .xor,.p (.int k n)=>some {v:=.p (.int k (k.wrap (am k.bits (if k.signed then -1 else k.max)^^^am k.bits n).toNat))}
  |_,_=>none
 | .convert S D x=>match P.underlying S,P.underlying D,ρ x with
  |some _,some (.int k),.p (.int _ n)=>some {v:=.p (.int k (k.wrap n))}
  |some _,some .string,.p (.str s)=>some {v:=.p (.str s)}
  |_,_,_=>none
 | .extract t i=>match ρ t with
  | .p (.aC vs)=>match vs[i]? with
   |some v=>some {v:=.p v}
   |none=>none
  | .aC vs=>match vs[i]? with
   |some v=>some {v}
   |none=>none
  |_=>none
 | .fieldAddr T a f=>F9 P T (ρ a) f
 | .indexAddr T x i=>F6 P T H (ρ x) (ρ i)
 | .field T x f=>match kindOf P T,P.underlying T,ρ x with
  | .agg u,some (.struct _),.p t=>match(cm t)[f]?,(lD P u)[f]? with
   |some g,some F=>bif sE (aK t) (.agg u)&&sE (kindOf P F) (aK g)then some {v:=.p g}else none
   |_,_=>none
  |_,_,_=>none
 | .index T x i=>match ρ x,ρ i with
  | .p (.str s),.p (.int _ (.ofNat i))=>match s[i]? with
   |some c=>bif jM P T then some {v:=.p (.int .u8 c)}else none
   |none=>none
  | .p (.st u es),.p (.int _ (.ofNat i))=>match jr P T,(lD P u)[i]?,es[i]? with
   |some (u',n),some F,some g=>bif dx u' u&&(dq (i+1) n&&sE (kindOf P F) (aK g))then some {v:=.p g}else none
   |_,_,_=>none
  |_,_=>none
 | .makeFunc (.func f) fi ca=>bif ah f then match gO H (fi.toList.map ρ),gO H (ca.toList.map ρ)with
   |some (a,[],[]),some (b,ar,aM)=>some {v:=.p (.func f a b),ar,aM}
   |_,_=>none
  else match fq (fi.toList.map ρ),fq (ca.toList.map ρ)with
   |some a,some b=>some {v:=.p (.func f a b)}
   |_,_=>some {v:=.func f (fi.toList.map ρ) (ca.toList.map ρ)}
 | .makeSlice T l c=>match c7 P T,cF P (fy P T),ρ l,ρ c with
  |some sz,some z,.p (.int .i64 (.ofNat l)),.p (.int .i64 (.ofNat c))=>bif dx (bU P (aK z)) sz&&(dx l c&&dq l dH)then
   some {v:=.sl H.length 0 sz 0 l,aY:=[.arr .exact 0 sz (bo l (.p z))]}else none
  |_,_,_,_=>none
 | .slice T x lo hi d=>match d with
  |none=>HP P T H (ρ x) (lo.map ρ) (hi.map ρ) none
  |some m=>G7 P T H (ρ x) (lo.map ρ) (hi.map ρ) (ρ m)
 | .makeMap _ none=>some {v:=.map H.length,aY:=[.map false []]}
 | .lookup T x i ok=>QW P T H (ρ x) (ρ i) ok
 | .mapUpdate T m k x| .insert T m k x=>QT P T H (ρ m) (ρ k) (ρ x)
 | .range T x=>match ρ x with
  | .p (.str s)=>bif jM P T then some {v:=.ptr H.length [],aY:=[.dZ s 0]}else none
  |_=>none
 | .next it true=>Ux H (ρ it)
 | .nilCheck x=>match ρ x with
  | .ptr _ _| .cA _ _ _ _ _| .p (.cM _)=>some {v:=ρ x}
  |_=>none
 | .call c=>match c.callee with
  | .builtin b=>PI P H b c.argTypes (c.args.toList.map ρ)
  |_=>none
 |_=>none
theorem Sq{o:Oper}{ρ:ay->AV}{H:al}{e:aZ}{K:aZ->Prop}(h:Es P ah o ρ H=some e)(hk:K e):gJ P ah o ρ H K:=by
 unfold Es at h;unfold gJ;cases ab:o.op<;>simp only[ab]at h<;>simp only
 case move|assign=>simp only[ee]at h;subst h;exact hk
 case pick c a b=>
  split at h
  ·rename_i t hc;simp only[ee]at h;subst h;simp only[hc];cases t<;>exact hk
  ·simp at h
 case alloc T=>
  split at h
  ·rename_i z hz;simp only[ao,ed,ee,av]at h;obtain⟨⟨d,j⟩,rfl⟩:=h;simp only[hz];exact⟨(ka d).1,(ka d).2,j,hk⟩
  ·simp at h
 case box T x=>
  simp only[ao,ed,ee,av]at h;obtain⟨⟨d,j⟩,rfl⟩:=h;exact⟨(ka d).1,(ka d).2,j,hk⟩
 case build T parts=>
  split at h
  ·rename_i u z ac hz
   split at h
   ·rename_i l E;simp only[ao,ed,ee,av]at h;obtain⟨⟨d,j⟩,rfl⟩:=h;simp only[ac,hz,E];exact⟨(ka d).1,Gk j,hk⟩
   ·simp at h
  ·simp at h
 case buildSlice T n parts=>
  split at h
  ·rename_i sz z I hz;simp only[ao,ed,ee,av]at h;obtain⟨⟨d,j,q⟩,rfl⟩:=h;simp only[I,hz];exact⟨dX d,dG j,Gk q,hk⟩
  ·simp at h
 case load T a=>exact avQ h hk
 case store T a x=>exact ZR h hk
 case binOp op T x y ae=>
  split at h
  ·rename_i v L;simp only[ee]at h;subst h;exact aCw (K:=fun v=>K {v:=.p v,ar:=ez H (ρ x)}) L hk
  ·simp at h
 case unOp op T x=>
  split at h
  all_goals first
   |(rename_i hx;simp only[ee]at h;subst h;simp only[hx];exact hk)
   |simp at h
 case convert S D x=>
  split at h
  ·rename_i d j q;simp only[ee]at h;subst h;simp only[d,j,q];exact hk
  ·rename_i d j q;simp only[ee]at h;subst h;simp only[d,j,q];exact hk
  ·simp at h
 case extract t i=>
  split at h
  ·rename_i R
   split at h
   ·rename_i L;simp only[ee]at h;subst h;simp only[R,L];exact hk
   ·simp at h
  ·rename_i R
   split at h
   ·rename_i L;simp only[ee]at h;subst h;simp only[R,L];exact hk
   ·simp at h
  ·simp at h
 case fieldAddr T a f=>exact Xu h hk
 case indexAddr T x i=>exact XH h hk
 case field T x f=>
  split at h
  ·rename_i d j q
   split at h
   ·rename_i A w;simp only[ao,ed,ee,av]at h;obtain⟨⟨B,C⟩,rfl⟩:=h;simp only[d,j,q,A,w];exact⟨(ka B).1,(ka C).1,hk⟩
   ·simp at h
  ·simp at h
 case index T x i=>
  split at h
  ·rename_i d j
   split at h
   ·rename_i c hc;simp only[ao,ed,ee]at h;obtain⟨q,rfl⟩:=h;obtain⟨hi,rfl⟩:=bf.1 hc;simp only[d,j];exact⟨q,a8 _,hi,hk⟩
   ·simp at h
  ·rename_i u U aj i d j
   split at h
   ·rename_i u' n F g q A w;simp only[ao,ed,ee,av]at h;obtain⟨⟨g1,g2,g3⟩,rfl⟩:=h;have e:(Int.ofNat i).toNat=i:=rfl;simp only[d,j,e,q,A,w];exact⟨dX g1,a8 _,dG g2,(ka g3).1,hk⟩
   ·simp at h
  ·simp at h
 case makeFunc fn fi ca=>
  cases fn<;>simp only at h<;>try (simp at h;done)
  rename_i f;simp only;simp only[ao]at h
  split at h
  ·rename_i hf;rw[if_pos hf]
   split at h
   ·rename_i d j;simp only[ee]at h;subst h;simp only[d,j];exact hk
   ·simp at h
  ·rename_i hf;rw[if_neg hf]
   split at h
   ·rename_i d j;simp only[ee]at h;subst h;simp only[d,j];exact hk
   ·rename_i aa;simp only[ee]at h;subst h
    split
    ·rename_i d j;exact(aa _ _ d j).elim
    ·exact hk
 case makeSlice T l c=>
  split at h
  ·rename_i d j q A;simp only[ao,ed,ee,av]at h;obtain⟨⟨w,B,C⟩,rfl⟩:=h;have e:=dX B;simp only[d,j,q,A];refine⟨dX w,a8 _,by rw[e],?_,hk⟩;have:=dG C;show((_:Nat):Int)<=_
   exact_mod_cast this
  ·simp at h
 case slice T x lo hi ad=>
  cases ad with
  |none=>exact ZV h hk
  |some m=>exact Zy h hk
 case makeMap T r=>
  cases r<;>simp only at h
  ·simp only[ee]at h;subst h;exact hk
  ·simp at h
 case lookup T x i ok=>
  unfold QW at h
  split at h
  case h_2=>simp at h
  rename_i d j
  split at h
  case h_2=>simp at h
  rename_i z hz;simp only[ao,ed]at h;obtain⟨q,h⟩:=h;simp only[d,j,hz];refine⟨q,?_⟩
  have M:∀r:Option PV,DL ok z r=match r with
    |some v=>if ok=true then .aC [v,.bool true]else v
    |none=>if ok=true then .aC [z,.bool false]else z:=by
   intro r;cases r<;>cases ok<;>rfl
  split at h
  ·rename_i hx;simp only[ee]at h;subst h;simp only[hx];rw[M]at hk;exact hk
  ·rename_i hx
   split at h
   ·rename_i r J;simp only[ee]at h;subst h;rw[M]at hk;simp only[hx,J];cases r<;>exact hk
   ·simp at h
  ·rename_i hx
   split at h
   ·rename_i s
    split at h
    ·rename_i r J;simp only[ee]at h;subst h;rw[M]at hk;simp only[hx,s,J];cases r<;>exact hk
    ·simp at h
   ·rename_i s;simp only[ao,ed]at h;obtain⟨Y,h⟩:=h
    split at h
    ·rename_i r J;simp only[ee]at h;subst h;simp only[hx,s,J];refine⟨Y,?_⟩;cases r<;>cases ok<;>exact hk
    ·simp at h
   ·simp at h
  ·simp at h
 case mapUpdate T m k x|insert T m k x=>
  unfold QT at h
  split at h
  case h_2=>simp at h
  rename_i d j q;simp only[ao,ed]at h;obtain⟨w,h⟩:=h;simp only[d,j,q];generalize ρ x=X at*
  split at h
  ·rename_i s;cases X with
   |p v=>
    simp only at h;refine⟨w,?_⟩
    split at h
    ·rename_i E;simp only[ee]at h;subst h;simp only[s,E];exact hk
    ·simp at h
   |_=>
    refine⟨w,?_⟩;simp only[s];exact Fb h hk
  ·rename_i s;cases X with
   |p v=>
    refine⟨w,?_⟩;simp only[s];exact Fb h hk
   |_=>
    refine⟨w,?_⟩;simp only[s];exact Fb h hk
  ·simp at h
 case range T x=>
  split at h
  ·rename_i hx;simp only[ao,ed,ee]at h;obtain⟨d,rfl⟩:=h;simp only[hx];exact⟨d,hk⟩
  ·simp at h
 case next it isStr=>
  cases isStr<;>simp only at h
  ·simp at h
  unfold Ux at h
  split at h
  ·rename_i hx
   split at h
   ·rename_i s;simp only[hx,s];simp only[ao]at h
    split at h
    ·rename_i Q;simp only[ee]at h;subst h;rw[if_pos (by have:=dG Q;omega)];exact hk
    ·rename_i Q;simp only[ee]at h;subst h;rw[if_neg (fun Z=>Q (dy (Nat.succ_le_of_lt Z)))];exact hk
   ·simp at h
  ·simp at h
 case nilCheck x=>
  split at h
  all_goals first
   |(rename_i hx;simp only[ee]at h;subst h;simp only[hx]at hk⊢;exact hk)
   |simp at h
 case call c=>
  split at h
  case h_2=>simp at h
  rename_i b hc;simp only[hc];generalize c.args.toList.map ρ=args at*;generalize c.argTypes=af at*;unfold PI at h
  split at h
  ·split at h
   ·rename_i E;simp only[ao,ed,ee,av]at h;obtain⟨⟨d,j⟩,rfl⟩:=h;simp only[E];exact⟨d,dG j,hk⟩
   ·simp at h
  ·simp only[ao,ed]at h;exact⟨dX h.1,Wu h.2 hk⟩
  ·split at h
   ·rename_i O;simp only[ee]at h;subst h;simp only[O];exact hk
   ·simp at h
  ·split at h
   ·rename_i O;simp only[ee]at h;subst h;simp only[O];exact hk
   ·simp at h
  ·split at h
   ·rename_i I W;simp only[ao,ed,av]at h;obtain⟨⟨d,j,q⟩,h⟩:=h;simp only[I,W];refine⟨dX d,xS j,dX q,?_⟩
    split at h
    ·rename_i s;simp only[ed,ee]at h;obtain⟨⟨A,w,B,C,G⟩,rfl⟩:=h;simp only[s];exact⟨dX A,dX w,HX B,dG C,Aw G,hk⟩
    ·simp at h
   ·simp at h
  ·split at h
   ·rename_i E;simp only[ao,ed,ee,av]at h;obtain⟨⟨d,j⟩,rfl⟩:=h;simp only[E];exact⟨d,dG j,hk⟩
   ·simp at h
  ·split at h
   ·simp only[ao,ed,ee,av]at h;obtain⟨⟨d,j⟩,rfl⟩:=h;exact⟨d,dG j,hk⟩
   ·split at h
    ·rename_i I hz s;simp only[ao,ed,ee,av]at h;obtain⟨⟨d,j,q,A,w,B,C,G,N⟩,rfl⟩:=h;simp only[I,hz,s];exact⟨dX d,dX j,dX q,dX A,HX w,dG B,Aw C,dG G,dG N,hk⟩
    ·simp at h
   ·simp at h
  ·split at h
   ·simp only[ee]at h;subst h;exact hk
   ·split at h
    ·rename_i s;simp only[ao,ed,av]at h;obtain⟨⟨d,j⟩,h⟩:=h;simp only[s];refine⟨dX d,dX j,?_⟩
     split at h
     ·simp only[ed,ee]at h;obtain⟨⟨A,w⟩,rfl⟩:=h;exact .inr ⟨dG A,dG w,hk⟩
     ·rename_i hn;simp only[ee]at h;subst h;rename_i k _ _ U _ _;refine .inl ⟨?_,?_,hk⟩<;>(unfold rP at hn;split at hn<;>simp_all)
    ·simp at h
   ·simp at h
  ·split at h
   ·simp only[ao,ed,ee,av]at h;obtain⟨⟨d,j⟩,rfl⟩:=h;exact⟨by rw[dX d];rfl,dX j,hk⟩
   ·split at h
    ·rename_i s;simp only[ao,ed,av]at h;obtain⟨⟨d,j,q,A,w,B,C,G,N,V⟩,h⟩:=h;have ag:=dG w;have ai:=dG C;simp only[s];refine⟨dX d,dX j,dX q,dX A,by simp;omega,by simpa using dG B,by simp;omega,dX G,AN N,dX V,?_⟩;simp only[a9,bb]
     split at h
     ·rename_i E;simp only[ee]at h;subst h;simp only[E];exact hk
     ·simp at h
    ·simp at h
   ·simp at h
  ·simp at h
 all_goals simp at h
end
end Go.ag
namespace Go.ag
variable[Gl]
section
variable(σ:Nat->Nat)
mutual
def dc:AV->AV
 | .p v=>.p v
 | .ptr b path=>.ptr (σ b) path
 | .cA b az ak i path=>.cA (σ b) az ak i path
 | .sl b az ak off len=>.sl (σ b) az ak off len
 | .map b=>.map (σ b)
 | .func f fi ca=>.func f (dt fi) (dt ca)
 | .st u fs=>.st u (dt fs)
 | .aC vs=>.aC (dt vs)
def dt:List AV->List AV
 |[]=>[]
 |v::vs=>dc v::dt vs
end
def xX:Env->Env
 |[]=>[]
 |(x,v)::r=>(x,dc σ v)::xX r
def dD:Obj->Obj
 | .box fz t=>.box fz (dc σ t)
 | .arr k az ak es=>.arr k az ak (dt σ es)
 | .dF ks vs=>.dF ks (dt σ vs)
 | .loop L=>.loop {L with env:=xX σ L.env}
 |o=>o
end
section
variable{σ:Nat->Nat}
theorem G2:∀(e:Env)(x:Nat),aQ (xX σ e) x=dc σ (aQ e x)
 |[],_=>rfl
 |(y,v)::r,x=>by
  simp only[xX,aQ]
  split
  ·rfl
  ·exact G2 r x
theorem wW:∀l:List AV,(dt σ l).length=l.length
 |[]=>rfl
 |_::r=>by simp[dt,wW r]
theorem avh{l:List AV}:dt σ l=[]↔l=[]:=by cases l<;>simp[dt]
theorem ri{k:AK}{a:List AV}:dM k (dt σ a)↔dM k a:=by simp[dM,avh]
theorem Rr{v:AV}:(dc σ v).vZ↔v.vZ:=by cases v<;>simp[dc,AV.vZ]
theorem au5{v:AV}:aa (dc σ v)=aa v:=by cases v<;>rfl
theorem Qn:∀{l:List AV},(∀e∈dt σ l,e.vZ)↔∀e∈l,e.vZ
 |[]=>by simp[dt]
 |v::r=>by simp[dt,Rr,Qn (l:=r)]
theorem uK{o:Obj}:(dD σ o).live↔o.live:=by cases o<;>simp[dD,Obj.live,ri]
theorem Ru{o:Obj}{v:Nat}:(dD σ o).has v↔o.has v:=by cases o<;>simp[dD,Obj.has]
theorem av1{o:Obj}:dD σ o=.hole↔o=.hole:=by cases o<;>simp[dD]
mutual
theorem GG{S:Nat×Nat->Prop}:∀(v:AV),aF S (dc σ v)↔aF (fun x=>S (σ x.1,x.2)) v
 | .p _=>by simp[dc,aF]
 | .ptr _ _| .cA _ _ _ _ _| .sl _ _ _ _ _| .map _=>by simp[dc,aF]
 | .func _ fi ca=>by simp only[dc,aF];rw[xk fi,xk ca]
 | .st _ fs=>by simp only[dc,aF];exact xk fs
 | .aC vs=>by simp only[dc,aF];exact xk vs
theorem xk{S:Nat×Nat->Prop}:∀(l:List AV),ba S (dt σ l)↔ba (fun x=>S (σ x.1,x.2)) l
 |[]=>by simp[dt,ba]
 |v::r=>by simp only[dt,ba];rw[GG v,xk r]
end
theorem asJ{S:Nat×Nat->Prop}{o:Obj}:(dD σ o).refs S↔o.refs (fun x=>S (σ x.1,x.2)):=by
 cases o<;>simp only[dD,Obj.refs,GG,xk,G2]
theorem Obj.refs.mono{S T:Nat×Nat->Prop}(h:∀x,S x->T x){o:Obj}(a:o.refs S):o.refs T:=by
 cases o with
 |box fz t=>exact aF.mono h _ a
 |arr k az ak es=>exact ba.mono h _ a
 |dF ks vs=>exact ba.mono h _ a
 |loop L=>exact fun x=>aF.mono h _ (a x)
 |_=>trivial
structure ff(σ:Nat->Nat)(fe:Bd)(H0:al)(β:Bd)(H:al):Prop where
 obj:∀(b:Nat)(o:Obj),H0[b]?=some o->H[σ b]?=some (dD σ o)
 au:∀b,b<H0.length->β.au (σ b)=fe.au b/\β.cap (σ b)=fe.cap b
section
variable{P:a1}{w:a5}{ad:Nat->Prop}{fe β:Bd}{H0 H:al}
theorem ff.box(h:ff σ fe H0 β H){b:Nat}(a:b<H0.length):pY H (σ b)↔pY H0 b:=by
 have c:=h.obj b _ (be a);have d:=be a;unfold pY;rw[c,d];cases H0[b]<;>simp[dD]
theorem ff.it(h:ff σ fe H0 β H){b:Nat}(a:b<H0.length):pZ H (σ b)↔pZ H0 b:=by
 have c:=h.obj b _ (be a);have d:=be a;unfold pZ;rw[c,d];cases H0[b]<;>simp[dD]
theorem ff.map(h:ff σ fe H0 β H){b:Nat}(a:b<H0.length):rq H (σ b)↔rq H0 b:=by
 have h1:=h.obj b _ (be a);have c:=be a;unfold rq;rw[h1,c];cases H0[b]<;>simp[dD,Obj.yX]
theorem ff.loop(h:ff σ fe H0 β H){b:Nat}(a:b<H0.length):je H (σ b)↔je H0 b:=by
 have c:=h.obj b _ (be a);have d:=be a;unfold je;rw[c,d];cases H0[b]<;>simp[dD]
theorem ff.arr(h:ff σ fe H0 β H){b az ak:Nat}{k:AK}{es:List AV}(a:b<H0.length):gn H (σ b) az ak k es↔∃iT,gn H0 b az ak k iT/\es=dt σ iT:=by
 have c:=h.obj b _ (be a);have d:=be a;unfold gn;rw[c,d];cases H0[b]<;>simp[dD];constructor
 ·rintro⟨rfl,rfl,rfl,rfl⟩;exact⟨_,⟨rfl,rfl,rfl,rfl⟩,rfl⟩
 ·rintro⟨_,⟨rfl,rfl,rfl,rfl⟩,rfl⟩;exact⟨rfl,rfl,rfl,rfl⟩
theorem ff.IH(h:ff σ fe H0 β H){x:Nat×Nat}(a:x.1<H0.length):aL H (σ x.1,x.2)↔aL H0 x:=by
 have b:=h.obj x.1 _ (be a);have c:=be a;unfold aL;rw[b,c];simp[Ru]
def Small(n:Nat):Nat×Nat->Prop:=fun x=>x.1<n
theorem ff.tR(h:ff σ fe H0 β H):∀{a:AV}{v:a4},aF (Small H0.length) a->(b7 P β H (dc σ a) v↔b7 P fe H0 a v)
 | .p _,_,_| .func _ _ _,_,_| .st _ _,_,_| .aC _,_,_=>by simp[dc,b7]
 | .ptr b path,v,c=>by
  simp only[aF,Small]at c;simp only[dc,b7,h.box c,h.it c,(h.au b c).1]
 | .cA b az ak i path,v,c=>by
  simp only[aF,Small]at c;simp only[dc,b7,h.arr c,(h.au b c).1];constructor
  ·rintro⟨au,off,o,f,g,j⟩;exact⟨au,off,o,f,g,fun k d e hn=>j k _ ⟨d,e,rfl⟩ (by rwa [ri])⟩
  ·rintro⟨au,off,o,f,g,j⟩;refine⟨au,off,o,f,g,?_⟩;rintro k _ ⟨d,e,rfl⟩ hn;exact j k d e (by rwa [ri]at hn)
 | .sl b az ak off len,v,c=>by
  simp only[aF,Small]at c;simp only[dc,b7,h.arr c,(h.au b c).1,(h.au b c).2];constructor
  ·intro l k d e;have:=l k _ ⟨d,e,rfl⟩;simpa only[wW,ri]using this
  ·rintro l k _ ⟨d,e,rfl⟩;have:=l k d e;simpa only[wW,ri]using this
 | .map b,v,c=>by
  simp only[aF,Small]at c;simp only[dc,b7,h.map c,h.loop c,(h.au b c).1]
mutual
theorem ff.RM(h:ff σ fe H0 β H):∀(a:AV)(cs:List a4),aF (Small H0.length) a->(bC P w ad β H (dc σ a) cs↔bC P w ad fe H0 a cs)
 | .p _,_,_=>by simp[dc,bC]
 | .aC _,_,_=>by simp[dc,bC]
 | .st u fs,cs,d=>by
  simp only[aF]at d;simp only[dc,bC];exact exists_congr fun l=>exists_congr fun e=>and_congr_right fun _=>and_congr_left fun _=>ff.DO h l fs e d
 | .func f fi ca,cs,d=>by
  simp only[aF]at d;simp only[dc,bC];exact exists_congr fun l=>exists_congr fun e=>and_congr (ff.tD h fi l d.1) (and_congr_left fun _=>ff.tD h ca e d.2)
 | .ptr b path,cs,d=>by
  have:=fun v=>h.tR (P:=P) (a:=.ptr b path) (v:=v) d;simp only[dc,bC,bY]at this⊢;simp only[this]
 | .cA b az ak i path,cs,d=>by
  have:=fun v=>h.tR (P:=P) (a:=.cA b az ak i path) (v:=v) d;simp only[dc,bC,bY]at this⊢;simp only[this]
 | .sl b az ak off len,cs,d=>by
  have:=fun v=>h.tR (P:=P) (a:=.sl b az ak off len) (v:=v) d;simp only[dc,bC,bY]at this⊢;simp only[this]
 | .map b,cs,d=>by
  have:=fun v=>h.tR (P:=P) (a:=.map b) (v:=v) d;simp only[dc,bC,bY]at this⊢;simp only[this]
theorem ff.DO(h:ff σ fe H0 β H):∀(g:List Nat)(l:List AV)(e:List (List a4)),ba (Small H0.length) l->(bX P w ad β H g (dt σ l) e↔bX P w ad fe H0 g l e)
 |[],[],e,_=>by simp[dt,bX]
 |[],_::_,e,_=>by simp[dt,bX]
 |_::_,[],e,_=>by simp[dt,bX]
 |n::g,v::vs,e,d=>by
  simp only[ba]at d;simp only[dt,bX];exact exists_congr fun c=>exists_congr fun cs=>and_congr_right fun _=>and_congr (ff.RM h v c d.1) (and_congr_right fun _=>ff.DO h g vs cs d.2)
theorem ff.Ik(h:ff σ fe H0 β H):∀(a:AV)(v:a4),aF (Small H0.length) a->(aB P w ad β H (dc σ a) v↔aB P w ad fe H0 a v)
 | .p _,_,_=>by simp[dc,aB]
 | .aC vs,_,d=>by
  simp only[aF]at d;simp only[dc,aB];exact exists_congr fun l=>and_congr_left fun _=>ff.tD h vs l d
 | .st u fs,cs,d=>by
  simp only[aF]at d;simp only[dc,aB];exact exists_congr fun l=>exists_congr fun e=>and_congr_right fun _=>and_congr_left fun _=>ff.DO h l fs e d
 | .func f fi ca,cs,d=>by
  simp only[aF]at d;simp only[dc,aB];exact exists_congr fun l=>exists_congr fun e=>and_congr (ff.tD h fi l d.1) (and_congr_left fun _=>ff.tD h ca e d.2)
 | .ptr b path,v,d=>by
  have:=h.tR (P:=P) (a:=.ptr b path) (v:=v) d;simp only[dc,aB,bY]at this⊢;simp only[this]
 | .cA b az ak i path,v,d=>by
  have:=h.tR (P:=P) (a:=.cA b az ak i path) (v:=v) d;simp only[dc,aB,bY]at this⊢;simp only[this]
 | .sl b az ak off len,v,d=>by
  have:=h.tR (P:=P) (a:=.sl b az ak off len) (v:=v) d;simp only[dc,aB,bY]at this⊢;simp only[this]
 | .map b,v,d=>by
  have:=h.tR (P:=P) (a:=.map b) (v:=v) d;simp only[dc,aB,bY]at this⊢;simp only[this]
theorem ff.tD(h:ff σ fe H0 β H):∀(l:List AV)(vs:List a4),ba (Small H0.length) l->(bH P w ad β H (dt σ l) vs↔bH P w ad fe H0 l vs)
 |[],vs,_=>by simp[dt,bH]
 |a::l,vs,d=>by
  simp only[ba]at d;simp only[dt,bH];exact exists_congr fun y=>exists_congr fun j=>and_congr_right fun _=>and_congr (ff.Ik h a y d.1) (ff.tD h l j d.2)
end
theorem ff.UF(h:ff σ fe H0 β H){ai Prot0:Nat->Prop}{b:Nat}{o:Obj}(e:H0[b]?=some o)(c:o.refs (Small H0.length))(a:o.live->∀fz,cS ad fe Prot0 fz b↔cS ad β ai fz (σ b)):
 gC P w ad β H ai (σ b) (dD σ o)↔gC P w ad fe H0 Prot0 b o:=by
 have f:b<H0.length:=(bf.1 e).1;obtain⟨k1,k2⟩:=h.au b f;cases o with
 |hole=>simp[dD,gC]
 |dead=>simp[dD,gC]
 |box fz t=>
  simp only[dD,gC,k1,<-a trivial,h.RM t _ c,Rr,au5]
 |arr k az ak es=>
  simp only[dD,gC,k1,k2,ri,wW,Qn]
  by_cases hn:dM k es
  ·simp[hn]
  ·simp only[hn,false_or,<-a hn,h.DO _ es _ c]
 |map fz es=>
  simp only[dD,gC,k1,<-a trivial]
 |dF ks vs=>
  simp only[dD,gC,k1,<-a trivial,h.tD vs _ c]
 |dZ s pos=>
  simp only[dD,gC,k1,<-a trivial]
 |loop L=>
  simp only[dD,gC,k1,<-a trivial,G2];exact exists_congr fun t=>exists_congr fun d=>exists_congr fun fn=>and_congr_right fun _=>and_congr_right fun _=>and_congr_left fun _=>forall_congr' fun x=>h.Ik _ _ (c x)
end
end
end Go.ag
namespace Go.ag
variable[Gl]
def sig(bs:List Nat)(a i:Nat):Nat:=match bs[i]? with
 |some b=>b
 |none=>a+(i-bs.length)
theorem xF{bs:List Nat}{a i:Nat}(h:i<bs.length):sig bs a i=bs[i]:=by simp[sig,h]
theorem xG{bs:List Nat}{a i:Nat}(h:bs.length<=i):sig bs a i=a+(i-bs.length):=by simp[sig,h]
theorem aQN{bs:List Nat}{a:Nat}(e:bs.Nodup)(d:∀b∈bs,b<a){i j:Nat}(h:sig bs a i=sig bs a j):i=j:=by
 by_cases hi:i<bs.length<;>by_cases c:j<bs.length
 ·rw[xF hi,xF c]at h;exact(List.getElem_inj e).1 h
 ·rw[xF hi,xG o_]at h;have:=d _ (da hi);omega
 ·rw[xG o_,xF c]at h;have:=d _ (da c);omega
 ·rw[xG o_,xG o_]at h;omega
theorem uU:∀{l:List (Nat×Obj)}{H:al}{x:Nat},(∀p∈l,p.1≠x)->(bA H l)[x]?=H[x]?
 |[],_,_,_=>rfl
 |(b,o)::r,H,x,h=>by
  simp only[bA];rw[uU (fun p a=>h p (by simp[a])),List.getElem?_set_ne (h (b,o) s_)]
theorem xT:∀{l:List (Nat×Obj)}{H:al},(l.map (·.1)).Nodup->∀p∈l,p.1<H.length->(bA H l)[p.1]?=some p.2
 |[],_,_,_,h,_=>by simp at h
 |(b,o)::r,H,hn,p,a,c=>by
  simp only[b1,dd]at hn;simp only[bA];rcases bv.1 a with rfl|a
  ·rw[uU (fun q hq d=>hn.1 (bw.2 ⟨q,hq,d⟩)),List.getElem?_set_self c]
  ·exact xT hn.2 p a (by simpa using c)
theorem Gm(a:Nat):∀(l:List Obj),(newAt a l).map (·.1)=List.range' a l.length
 |[]=>rfl
 |o::r=>by simp[newAt,Gm (a+1) r,List.range'_succ]
theorem Oo:∀(l:List Obj)(a j:Nat)(h:j<l.length),(a+j,l[j])∈newAt a l
 |[],_,_,h=>by simp at h
 |o::r,a,0,h=>by simp[newAt]
 |o::r,a,j+1,h=>by
  have:=Oo r (a+1) j (by simpa using h);simp only[newAt,List.getElem_cons_succ,bv];right;have e:a+(j+1)=a+1+j:=o_
  rw[e];exact this
section
variable{P:a1}{w w':a5}{ad aG ai:Nat->Prop}{β aN:Bd}{H H':al}
theorem gC.mut{b:Nat}{o:Obj}(h:gC P w ad β H ai b o)(f:o.live)(hn:¬ad (β.au b)):¬ai (β.au b):=by
 have held:∀{fz},cS ad β ai fz b->¬ai (β.au b):=by
  intro fz g;cases fz with
  |true=>exact(hn (by simpa[cS]using g)).elim
  |false=>
   have:¬ad (β.au b)/\¬ai (β.au b):=by simpa[cS]using g
   exact this.2
 cases o with
 |hole=>exact f.elim
 |dead=>exact f.elim
 |box fz t=>
  obtain⟨cs,T,c,d,a,e⟩:=h;exact held a
 |arr k az ak es=>
  rcases h with h|⟨cs,T,l,rest,c,d,a,e,m,n,j,p⟩
  ·exact(f h).elim
  ·exact held j
 |map fz es=>
  obtain⟨i,clock,c,d,a⟩:=h;exact held a
 |dF ks vs=>
  obtain⟨i,clock,c,d,a,e⟩:=h;exact held e
 |dZ s pos=>
  obtain⟨bs,c,d,a⟩:=h;exact held a
 |loop L=>
  obtain⟨tmps,defers,fn,c,d,a,e⟩:=h;exact held e
theorem gC.carry(hi:∀k,ad k->aG k)(hs:∀k,ad k->w'.heap[k]?=w.heap[k]?)(aO:cO β H aN H'){b:Nat}{o:Obj}(l:o.refs (aL H))
 (j:o.live->w'.heap[β.au b]?=w.heap[β.au b]?/\aN.au b=β.au b/\aN.cap b=β.cap b)(held:o.live->∀fz,cS ad β ai fz b->cS aG aN ai fz b)(h:gC P w ad β H ai b o):gC P w' aG aN H' ai b o:=by
 cases o with
 |hole=>trivial
 |dead=>trivial
 |box fz t=>
  obtain⟨cs,T,d,e,f,i⟩:=h;obtain⟨a,c,g⟩:=j trivial;exact⟨cs,T,by rw[c,a];exact d,bC.mono hi hs aO _ _ l e,held trivial _ f,i⟩
 |arr k az ak es=>
  rcases h with h|⟨cs,T,p,rest,d,e,f,i,q,r,u,v⟩
  ·exact .inl h
  ·by_cases n:dM k es
   ·exact .inl n
   ·obtain⟨a,c,g⟩:=j n;exact .inr ⟨cs,T,p,rest,by rw[c,a];exact d,bX.mono hi hs aO _ _ _ l e,f,by rw[g];exact i,by rw[g];exact q,by rw[g];exact r,held n _ u,v⟩
 |map fz es=>
  obtain⟨m,clock,d,e,f⟩:=h;obtain⟨a,c,g⟩:=j trivial;exact⟨m,clock,by rw[c,a];exact d,cT.mono hi hs _ _ e,held trivial _ f⟩
 |dF ks vs=>
  obtain⟨m,clock,d,e,f,i⟩:=h;obtain⟨a,c,g⟩:=j trivial;exact⟨m,clock,by rw[c,a];exact d,bG.mono hi hs _ _ e,bH.mono hi hs aO _ _ l f,held trivial _ i⟩
 |dZ s pos=>
  obtain⟨bs,d,e,f⟩:=h;obtain⟨a,c,g⟩:=j trivial;exact⟨bs,by rw[c,a];exact d,e,held trivial _ f⟩
 |loop L=>
  obtain⟨tmps,defers,fn,d,e,f,i⟩:=h;obtain⟨a,c,g⟩:=j trivial;exact⟨tmps,defers,fn,by rw[c,a];exact d,e,fun x=>aB.mono hi hs aO _ _ (l x) (f x),held trivial _ i⟩
def eg(bs:List Nat)(a:Nat)(H0 ch:al)(b:AV):aZ:=
 {v:=dc (sig bs a) b,ar:=bs.zip (H0.map (dD (sig bs a))),aM:=bs.zip ((ch.take H0.length).map (dD (sig bs a))),aY:=(ch.drop H0.length).map (dD (sig bs a))}
open Classical in
theorem N6{H0 ch:al}{gP:List AV}{v0:AV}(bs:List Nat)(base:Nat)(hlen:bs.length=H0.length)(hnd:bs.Nodup)(hlt:∀b∈bs,b<base)
 (hl:H0.length<=ch.length)(ha:ba (aL H0) gP)(ho:∀(b:Nat)(o:Obj),H0[b]?=some o->o.refs (aL H0))
 {H:al}{w:a5}{ad ai:Nat->Prop}{β:Bd}{cargs:List a4}(hr:cB P w ad β H ai)(hargs:bH P w ad β H (dt (sig bs base) gP) cargs)
 (ar:∀p∈(eg bs base H0 ch v0).ar,H[p.1]?=some p.2)(aY:∀i,i<(eg bs base H0 ch v0).aY.length->H[base+i]?=some .hole):
 ∃(fe:Bd)(Prot0:Nat->Prop),(∀b,fe.au b=β.au (sig bs base b))/\cB P w ad fe H0 Prot0/\bH P w ad fe H0 gP cargs/\(∀b,b<H0.length->(je H (sig bs base b)↔je H0 b))/\
  ∀(cv:a4)(w':a5)(β0':Bd)(aG:Nat->Prop),ct P Prot0 ad w fe H0 aG w' β0' ch->aB P w' aG β0' ch v0 cv->aF (aL ch) v0->
   ∃aN,ct P ai ad w β H aG w' aN (bA H ((eg bs base H0 ch v0).aM++newAt base (eg bs base H0 ch v0).aY))/\
    aB P w' aG aN (bA H ((eg bs base H0 ch v0).aM++newAt base (eg bs base H0 ch v0).aY)) (eg bs base H0 ch v0).v cv/\
    aF (aL (bA H ((eg bs base H0 ch v0).aM++newAt base (eg bs base H0 ch v0).aY))) (eg bs base H0 ch v0).v:=by
 obtain⟨σ,hσ⟩:∃σ,σ=sig bs base:=⟨_,rfl⟩
 have hinj:∀{i j},σ i=σ j->i=j:=fun{i j} h=>aQN hnd hlt (by rw[hσ]at h;exact h);have hold:∀{i}(hi:i<H0.length),σ i=bs[i]' o_:=fun hi=>by rw[hσ];exact xF _
 have hnw:∀{i},H0.length<=i->σ i=base+(i-H0.length):=fun hi=>by rw[hσ,xG o_,hlen]
 have hget:∀(b:Nat)(o:Obj),H0[b]?=some o->H[σ b]?=some (dD σ o):=by
  intro b o hb;obtain⟨hbl,rfl⟩:=bf.1 hb;have:=ar (bs[b]' o_,dD (sig bs base) H0[b]) (by
   simp only[eg];rw[bi];exact⟨b,by simp;omega,s_⟩)
  rw[hold hbl,hσ];exact this
 have hnewH:∀i,H0.length<=i->i<ch.length->H[σ i]?=some .hole:=by
  intro i h1 h2;rw[hnw h1];exact aY (i-H0.length) (by simp[eg];omega)
 obtain⟨H2,hH2⟩:∃H2,H2=bA H ((eg bs base H0 ch v0).aM++newAt base (eg bs base H0 ch v0).aY):=⟨_,rfl⟩
 have hkeys:∀p∈(eg bs base H0 ch v0).aM++newAt base (eg bs base H0 ch v0).aY,∃i,i<ch.length/\p.1=σ i:=by
  intro p hp;rcases dg.1 hp with hp|hp
  ·simp only[eg]at hp;have hm:=(cc hp).1;obtain⟨i,hi,he⟩:=bi.1 hm;exact⟨i,o_,by rw[hold o_];exact he.symm⟩
  ·have hm:p.1∈(newAt base (eg bs base H0 ch v0).aY).map (·.1):=cx hp
   rw[Gm,cy]at hm;simp only[eg,List.length_map,List.length_drop]at hm;exact⟨H0.length+(p.1-base),o_,by rw[hnw o_];omega⟩
 have hndk:(((eg bs base H0 ch v0).aM++newAt base (eg bs base H0 ch v0).aY).map (·.1)).Nodup:=by
  rw[List.map_append,Gm];have e:(eg bs base H0 ch v0).aM.map (·.1)=bs:=by
   simp only[eg];rw[c9];simp;omega
  rw[e,List.nodup_append];refine⟨hnd,List.nodup_range',fun a h1 b h2 he=>?_⟩;subst he;have:=hlt _ h1;rw[cy]at h2;omega
 have hA:∀(i:Nat)(o:Obj),ch[i]?=some o->H2[σ i]?=some (dD σ o):=by
  intro i o hi;obtain⟨hil,rfl⟩:=bf.1 hi
  by_cases hi0:i<H0.length
  ·have hm:(bs[i]' o_,dD (sig bs base) ch[i])∈(eg bs base H0 ch v0).aM++newAt base (eg bs base H0 ch v0).aY:=by
    refine List.mem_append_left _ ?_;simp only[eg];rw[bi];exact⟨i,by simp;omega,s_⟩
   have:=xT (H:=H) hndk _ hm (by
    have:=hget i _ (be hi0);rw[hold hi0]at this;exact(bf.1 this).1)
   rw[hH2,hold hi0,this,hσ]
  ·have hm:(base+(i-H0.length),dD (sig bs base) ch[i])∈(eg bs base H0 ch v0).aM++newAt base (eg bs base H0 ch v0).aY:=by
    refine List.mem_append_right _ ?_;have:=Oo (eg bs base H0 ch v0).aY base (i-H0.length) (by simp[eg];omega);have e:(eg bs base H0 ch v0).aY[i-H0.length]'(by simp[eg];omega)=dD (sig bs base) ch[i]:=by
     simp only[eg,List.getElem_map,List.getElem_drop];congr 2;omega
    rw[e]at this;exact this
   have:=xT (H:=H) hndk _ hm (by
    have:=hnewH i o_ hil;rw[hnw o_]at this;exact(bf.1 this).1)
   rw[hH2,hnw o_,this,hσ]
 have hB:∀x,(∀i,i<ch.length->σ i≠x)->H2[x]?=H[x]?:=by
  intro x hx;rw[hH2];refine uU fun p hp=>?_;obtain⟨i,h1,h2⟩:=hkeys p hp;rw[h2];exact hx i h1
 let fe:Bd:=⟨fun b=>β.au (σ b),fun b=>β.cap (σ b)⟩
 let Prot0:Nat->Prop:=fun k=>ai k\/∃x o,H[x]?=some o/\o.live/\(∀i,i<H0.length->σ i≠x)/\β.au x=k
 have hemb:ff σ fe H0 β H:=⟨hget,fun b _=>⟨rfl,rfl⟩⟩
 have small:∀x:Nat×Nat,aL H0 x->Small H0.length x:=fun x⟨o,ho,_⟩=>(bf.1 ho).1;have held0:∀{b:Nat}{o:Obj},H0[b]?=some o->o.live->∀fz,cS ad fe Prot0 fz b↔cS ad β ai fz (σ b):=by
  intro b o hb hlv fz;cases fz with
  |true=>simp[cS,fe]
  |false=>
   simp only[cS,ax,if_false];refine and_congr_right fun hni=>⟨fun h hp=>h (.inl hp),fun h hp=>?_⟩
   rcases hp with hp|⟨x,o',h1,h2,h3,h4⟩
   ·exact h hp
   ·exact h3 b (bf.1 hb).1 (hr.inj _ _ _ _ (hget b o hb) h1 (uK.2 hlv) h2 hni h4.symm)
 have hr0:cB P w ad fe H0 Prot0:=by
  refine⟨fun b o hb=>?_,fun b b' o o' h1 h2 l1 l2 hni he=>?_,ho,hr.cq,fun k hk=>?_,hr.lr⟩
  ·exact(hemb.UF hb ((ho b o hb).mono small) (held0 hb)).1 (hr.dj _ _ (hget b o hb))
  ·exact hinj (hr.inj _ _ _ _ (hget b o h1) (hget b' o' h2) (uK.2 l1) (uK.2 l2) hni he)
  ·rcases hk with hk|⟨x,o,h1,h2,_,rfl⟩
   ·exact hr.fO k hk
   ·exact hr.rl h1 h2
 have hargs0:bH P w ad fe H0 gP cargs:=by
  rw[<-hσ]at hargs;exact(hemb.tD _ _ (ba.mono small _ ha)).1 hargs
 refine⟨fe,Prot0,fun b=>by rw[<-hσ],hr0,hargs0,fun b hb=>by rw[<-hσ];exact hemb.loop hb,fun cv w' β0' aG hp hv hvr=>?_⟩
 let aN:Bd:=⟨fun x=>if h:∃i,i<ch.length/\σ i=x then β0'.au h.choose else β.au x,fun x=>if h:∃i,i<ch.length/\σ i=x then β0'.cap h.choose else β.cap x⟩
 have hβ:∀i,i<ch.length->aN.au (σ i)=β0'.au i/\aN.cap (σ i)=β0'.cap i:=by
  intro i hi;have hex:∃j,j<ch.length/\σ j=σ i:=⟨i,hi,rfl⟩
  have hc:hex.choose=i:=hinj hex.choose_spec.2;simp only[aN,dif_pos hex,hc,and_self]
 have hβn:∀x,(∀i,i<ch.length->σ i≠x)->aN.au x=β.au x/\aN.cap x=β.cap x:=by
  intro x hx;have hnex:¬∃i,i<ch.length/\σ i=x:=fun⟨i,h1,h2⟩=>hx i h1 h2;simp only[aN,dif_neg hnex,and_self]
 have hemb':ff σ β0' ch aN H2:=⟨hA,fun b hb=>hβ b hb⟩
 have small':∀x:Nat×Nat,aL ch x->Small ch.length x:=fun x⟨o,ho,_⟩=>(bf.1 ho).1;have split:∀x,(∃i,i<ch.length/\σ i=x)\/∀i,i<ch.length->σ i≠x:=by
  intro x
  by_cases hx:∃i,i<ch.length/\σ i=x
  ·exact .inl hx
  ·exact .inr fun i h1 h2=>hx ⟨i,h1,h2⟩
 have inOld:∀{i v},i<ch.length->aL H (σ i,v)->aL H0 (i,v)/\i<H0.length:=by
  intro i v hi ⟨o,h1,h2⟩
  by_cases hi0:i<H0.length
  ·refine⟨?_,hi0⟩;have:=hget i _ (be hi0);simp only at h1;rw[this]at h1;cases h1;exact⟨_,be hi0,Ru.1 h2⟩
  ·have:=hnewH i o_ hi;simp only at h1;rw[this]at h1;cases h1;exact h2.elim
 have jk:cO β H aN H2:=by
  refine⟨?_,?_,?_,?_,?_⟩
  ·intro b hb hlv;rcases split b with⟨i,hi,rfl⟩|hx
   ·obtain⟨k1,k2⟩:=inOld hi hb;obtain⟨g1,g2⟩:=hp.step.box i k1 ((hemb'.box hi).1 hlv);exact⟨(hemb.box k2).2 g1,(hβ i hi).1.trans g2⟩
   ·unfold pY at hlv⊢;rw[hB b hx]at hlv;exact⟨hlv,(hβn b hx).1⟩
  ·intro b hb hlv;rcases split b with⟨i,hi,rfl⟩|hx
   ·obtain⟨k1,k2⟩:=inOld hi hb;obtain⟨g1,g2⟩:=hp.step.it i k1 ((hemb'.it hi).1 hlv);exact⟨(hemb.it k2).2 g1,(hβ i hi).1.trans g2⟩
   ·unfold pZ at hlv⊢;rw[hB b hx]at hlv;exact⟨hlv,(hβn b hx).1⟩
  ·intro b hb hlv;rcases split b with⟨i,hi,rfl⟩|hx
   ·obtain⟨k1,k2⟩:=inOld hi hb;obtain⟨g1,g2⟩:=hp.step.map i k1 ((hemb'.map hi).1 hlv);exact⟨(hemb.map k2).2 g1,(hβ i hi).1.trans g2⟩
   ·unfold rq at hlv⊢;rw[hB b hx]at hlv;exact⟨hlv,(hβn b hx).1⟩
  ·intro b az ak k es hb hlv;rcases split b with⟨i,hi,rfl⟩|hx
   ·obtain⟨k1,k2⟩:=inOld hi hb;obtain⟨iT,g0,rfl⟩:=(hemb'.arr hi).1 hlv;obtain⟨k0,es1,g1,g2,g3,g4⟩:=hp.step.arr i az ak k iT k1 g0;refine⟨k0,dt σ es1,(hemb.arr k2).2 ⟨_,g1,rfl⟩,by rw[wW,wW];exact g2,by rw[ri,ri];exact g3,fun hn=>?_⟩;rw[ri]at hn;rw[(hβ i hi).1,(hβ i hi).2];exact g4 hn
   ·unfold gn at hlv⊢;rw[hB b hx]at hlv;exact⟨k,es,hlv,dz _,Iff.rfl,fun _=>hβn b hx⟩
  ·intro b hb hlv;rcases split b with⟨i,hi,rfl⟩|hx
   ·obtain⟨k1,k2⟩:=inOld hi hb;obtain⟨g1,g2⟩:=hp.step.loop i k1 ((hemb'.loop hi).1 hlv);exact⟨(hemb.loop k2).2 g1,(hβ i hi).1.trans g2⟩
   ·unfold je at hlv⊢;rw[hB b hx]at hlv;exact⟨hlv,(hβn b hx).1⟩
 have hinn:∀x,aL H x->aL H2 x:=by
  rintro⟨b,v⟩ hb;rcases split b with⟨i,hi,rfl⟩|hx
  ·obtain⟨k1,_⟩:=inOld hi hb;exact(hemb'.IH (x:=(i,v)) hi).2 (hp.gU _ k1)
  ·obtain⟨o,h1,h2⟩:=hb;exact⟨o,by simp only;rw[hB b hx];exact h1,h2⟩
 have prot0:∀{x:Nat}{o:Obj},(∀i,i<ch.length->σ i≠x)->H[x]?=some o->o.live->Prot0 (β.au x):=by
  intro x o hx h1 h2;exact .inr ⟨x,o,h1,h2,fun i hi=>hx i o_,rfl⟩
 have mut':∀{i:Nat}{o:Obj},ch[i]?=some o->o.live->¬aG (β0'.au i)->¬Prot0 (β0'.au i):=by
  intro i o h1 h2 h3;exact(hp.rel.dj i o h1).mut h2 h3
 have hrel:cB P w' aG aN H2 ai:=by
  refine⟨fun x o hx=>?_,fun x x' o o' h1 h2 l1 l2 hni he=>?_,fun x o hx=>?_,hp.rel.cq,fun k hk=>hp.rel.fO k (.inl hk),hp.rel.lr⟩
  ·rcases split x with⟨i,hi,rfl⟩|hn
   ·have hg:=hA i _ (be hi);rw[hg]at hx;cases hx;refine(hemb'.UF (Prot0:=Prot0) (be hi) ((hp.rel.refs i _ (be hi)).mono small') (fun hlv fz=>?_)).2 (hp.rel.dj i _ (be hi));cases fz with
    |true=>simp[cS,(hβ i hi).1]
    |false=>
     simp only[cS,ax,if_false,(hβ i hi).1];exact⟨fun h=>⟨h.1,fun hp=>h.2 (.inl hp)⟩,fun h=>⟨h.1,mut' (be hi) hlv h.1⟩⟩
   ·rw[hB x hn]at hx;refine gC.carry hp.cq (fun k hk=>hp.ext.same k (.inr hk)) jk (hr.refs x o hx) (fun hlv=>⟨hp.ext.same _ (.inl (prot0 hn hx hlv)),hβn x hn⟩) (fun hlv fz hh=>?_) (hr.dj x o hx);have hp0:=prot0 hn hx hlv;cases fz with
    |true=>
     simp only[cS,if_true]at hh⊢;rw[(hβn x hn).1];exact hp.cq _ hh
    |false=>
     simp only[cS,ax,if_false]at hh⊢;rw[(hβn x hn).1];exact⟨fun hi=>(hp.fresh _ hi).elim hh.1 (fun h=>h hp0),hh.2⟩
  ·rcases split x with⟨i,hi,rfl⟩|hn<;>rcases split x' with⟨j,hj,rfl⟩|hn'
   ·have g1:=hA i _ (be hi);have g2:=hA j _ (be hj);rw[g1]at h1;cases h1;rw[g2]at h2;cases h2;rw[(hβ i hi).1,(hβ j hj).1]at he;rw[(hβ i hi).1]at hni;rw[hp.rel.inj i j _ _ (be hi) (be hj) (uK.1 l1) (uK.1 l2) hni he]
   ·have g1:=hA i _ (be hi);rw[g1]at h1;cases h1;rw[hB x' hn']at h2;rw[(hβ i hi).1,(hβn x' hn').1]at he;rw[(hβ i hi).1]at hni;exact(mut' (be hi) (uK.1 l1) hni (he▸prot0 hn' h2 l2)).elim
   ·have g2:=hA j _ (be hj);rw[g2]at h2;cases h2;rw[hB x hn]at h1;rw[(hβ j hj).1,(hβn x hn).1]at he;rw[(hβn x hn).1]at hni;exact(mut' (be hj) (uK.1 l2) (he▸hni) (he▸prot0 hn h1 l1)).elim
   ·rw[hB x hn]at h1;rw[hB x' hn']at h2;rw[(hβn x hn).1,(hβn x' hn').1]at he;rw[(hβn x hn).1]at hni;exact hr.inj _ _ _ _ h1 h2 l1 l2 (fun hi=>hni (hp.cq _ hi)) he
  ·rcases split x with⟨i,hi,rfl⟩|hn
   ·have hg:=hA i _ (be hi);rw[hg]at hx;cases hx;rw[asJ];exact(hp.rel.refs i _ (be hi)).mono (fun y hy=>(hemb'.IH (small' y hy)).2 hy)
   ·rw[hB x hn]at hx;exact(hr.refs x o hx).mono hinn
 refine⟨aN,?_,?_,?_⟩
 ·rw[<-hH2];refine⟨hp.cq,fun k hk=>(hp.fresh k hk).imp id (fun h h'=>h (.inl h')),⟨hp.ext.size,fun k hk=>hp.ext.same k (hk.imp .inl id),hp.ext.io⟩,jk,hrel,hinn,fun b hb=>?_⟩;rcases split b with⟨i,hi,rfl⟩|hx
  ·by_cases hi0:i<H0.length
   ·exact(hemb'.loop hi).2 (hp.loop i ((hemb.loop hi0).1 hb))
   ·obtain⟨L,hL⟩:=hb;rw[hnewH i o_ hi]at hL;cases hL
  ·unfold je at hb⊢;rw[hB b hx];exact hb
 ·rw[<-hH2];show aB P w' aG aN H2 (dc (sig bs base) v0) cv;rw[<-hσ];exact(hemb'.Ik _ _ (aF.mono small' _ hvr)).2 hv
 ·rw[<-hH2];show aF (aL H2) (dc (sig bs base) v0);rw[<-hσ,GG];exact aF.mono (fun y hy=>(hemb'.IH (small' y hy)).2 hy) _ hvr
theorem dE.frame{f:a0}{H0 ch:al}{gP:List AV}{d:AV}(h:dE P f H0 gP ch d)(bs:List Nat)(a:Nat)(q:bs.length=H0.length)(s:bs.Nodup)(r:∀b∈bs,b<a)
 (p:H0.length<=ch.length)(c:ba (aL H0) gP)(t:∀(b:Nat)(o:Obj),H0[b]?=some o->o.refs (aL H0)):
 vM P f (dt (sig bs a) gP) a (eg bs a H0 ch d):=by
 refine⟨h.1,fun H w ad ai β l v m _ ar aY=>?_⟩;obtain⟨fe,g,-,x,n,-,back⟩:=N6 bs a q s r p c t v m ar aY;refine(h.2 w ad g fe l x n c).mono ?_;rintro e w' ⟨cv,A,aG,rfl,u,y,z⟩;obtain⟨aN,i,j,k⟩:=back cv w' A aG u y z;exact⟨cv,aN,aG,rfl,i,j,k⟩
theorem gz.frame{b:Nat}{H0 ch:al}{gP:List AV}{g:AV}(h:gz P b H0 gP ch g)(bs:List Nat)(a:Nat)(v:bs.length=H0.length)(z:bs.Nodup)(y:∀b∈bs,b<a)
 (u:H0.length<=ch.length)(e:ba (aL H0) gP)(A:∀(b:Nat)(o:Obj),H0[b]?=some o->o.refs (aL H0)):
 rD P (sig bs a b) (dt (sig bs a) gP) a (eg bs a H0 ch g):=by
 intro H w ad ai β n C q _ ar aY;obtain⟨fe,i,s,D,r,x,back⟩:=N6 bs a v z y u e A C q ar aY;have t:b<H0.length:=by
  obtain⟨L,p⟩:=h.1;exact(bf.1 p).1
 refine⟨(x b t).2 h.1,?_⟩;obtain⟨f,tmps,assign,body,c,d⟩:=h.2 w ad i fe n D r e;rw[s]at c d;refine⟨f,tmps,assign,body,c,fun m G=>?_⟩;obtain⟨cv,w',I,aG,g1,B,E,F⟩:=d m G;obtain⟨aN,j,k,l⟩:=back cv w' I aG B E F;exact⟨cv,w',aN,aG,g1,j,k,l⟩
end
end Go.ag
namespace Go.ag
variable[Gl]
def mR(b:Nat):List Nat->Nat->Option Nat
 |[],_=>none
 |x::r,i=>bif dx x b then some i else mR b r (i+1)
theorem Qp{b:Nat}:∀{l:List Nat}{i j:Nat},mR b l i=some j->i<=j/\l[j-i]?=some b
 |[],_,_,h=>by simp[mR]at h
 |x::r,i,j,h=>by
  simp only[mR]at h;cases a:dx x b
  ·simp only[a,cond_false]at h;obtain⟨d,c⟩:=Qp h;refine⟨o_,?_⟩;have e:j-i=(j-(i+1))+1:=by omega
   rw[e,List.getElem?_cons_succ];exact c
  ·simp only[a,cond_true,ee]at h;subst h;simp[dX a]
section
variable(bs:List Nat)
mutual
def o7:AV->Option AV
 | .p v=>some (.p v)
 | .ptr b path=>match mR b bs 0 with
  |some i=>some (.ptr i path)
  |none=>none
 | .cA b az ak i path=>match mR b bs 0 with
  |some j=>some (.cA j az ak i path)
  |none=>none
 | .sl b az ak off len=>match mR b bs 0 with
  |some j=>some (.sl j az ak off len)
  |none=>none
 | .map b=>match mR b bs 0 with
  |some j=>some (.map j)
  |none=>none
 | .func f fi ca=>match oL fi,oL ca with
  |some a,some b=>some (.func f a b)
  |_,_=>none
 | .st u fs=>match oL fs with
  |some a=>some (.st u a)
  |none=>none
 | .aC vs=>match oL vs with
  |some a=>some (.aC a)
  |none=>none
def oL:List AV->Option (List AV)
 |[]=>some []
 |v::r=>match o7 v,oL r with
  |some a,some b=>some (a::b)
  |_,_=>none
end
def HL:Obj->Option Obj
 | .box fz t=>match o7 bs t with
  |some a=>some (.box fz a)
  |none=>none
 | .arr k az ak es=>match oL bs es with
  |some a=>some (.arr k az ak a)
  |none=>none
 | .map fz es=>some (.map fz es)
 | .dF ks vs=>match oL bs vs with
  |some a=>some (.dF ks a)
  |none=>none
 | .dZ s n=>some (.dZ s n)
 | .dead=>some .dead
 |_=>none
def Ar(H:al):List Nat->Option al
 |[]=>some []
 |b::r=>match H[b]? with
  |some o=>match HL bs o,Ar H r with
   |some a,some t=>some (a::t)
   |_,_=>none
  |none=>none
end
section
variable{bs:List Nat}{base:Nat}
theorem C5{b i:Nat}(h:mR b bs 0=some i):sig bs base i=b:=by
 have:=(Qp h).2;simp only[Nat.sub_zero]at this;simp[sig,this]
mutual
theorem Pn:∀{a c:AV},o7 bs a=some c->dc (sig bs base) c=a
 | .p v,c,h=>by simp only[o7,ee]at h;subst h;rfl
 | .ptr b path,c,h=>by
  simp only[o7]at h
  split at h
  ·rename_i i hi;simp only[ee]at h;subst h;simp only[dc,C5 hi]
  ·simp at h
 | .cA b az ak i path,c,h=>by
  simp only[o7]at h
  split at h
  ·rename_i i hi;simp only[ee]at h;subst h;simp only[dc,C5 hi]
  ·simp at h
 | .sl b az ak off len,c,h=>by
  simp only[o7]at h
  split at h
  ·rename_i i hi;simp only[ee]at h;subst h;simp only[dc,C5 hi]
  ·simp at h
 | .map b,c,h=>by
  simp only[o7]at h
  split at h
  ·rename_i i hi;simp only[ee]at h;subst h;simp only[dc,C5 hi]
  ·simp at h
 | .func f fi ca,c,h=>by
  simp only[o7]at h
  split at h
  ·rename_i a b d g;simp only[ee]at h;subst h;simp only[dc,sJ d,sJ g]
  ·simp at h
 | .st u fs,c,h=>by
  simp only[o7]at h
  split at h
  ·rename_i a d;simp only[ee]at h;subst h;simp only[dc,sJ d]
  ·simp at h
 | .aC vs,c,h=>by
  simp only[o7]at h
  split at h
  ·rename_i a d;simp only[ee]at h;subst h;simp only[dc,sJ d]
  ·simp at h
theorem sJ:∀{l e:List AV},oL bs l=some e->dt (sig bs base) e=l
 |[],e,h=>by simp only[oL,ee]at h;subst h;rfl
 |v::r,e,h=>by
  simp only[oL]at h
  split at h
  ·rename_i a b d g;simp only[ee]at h;subst h;simp only[dt,Pn d,sJ g]
  ·simp at h
end
theorem ZO{o c:Obj}(h:HL bs o=some c):dD (sig bs base) c=o:=by
 cases o<;>simp only[HL]at h
 case box fz t=>
  split at h
  ·rename_i a b;simp only[ee]at h;subst h;simp only[dD,Pn b]
  ·simp at h
 case arr k az ak es=>
  split at h
  ·rename_i a b;simp only[ee]at h;subst h;simp only[dD,sJ b]
  ·simp at h
 case dF ks vs=>
  split at h
  ·rename_i a b;simp only[ee]at h;subst h;simp only[dD,sJ b]
  ·simp at h
 case hole=>simp at h
 case loop=>simp at h
 all_goals (simp only[ee]at h;subst h;rfl)
theorem N9{H:al}:∀{l:List Nat}{H0:al},Ar bs H l=some H0->H0.length=l.length/\∀p∈l.zip (H0.map (dD (sig bs base))),H[p.1]?=some p.2
 |[],H0,h=>by simp only[Ar,ee]at h;subst h;simp
 |b::r,H0,h=>by
  simp only[Ar]at h
  split at h
  case h_2=>simp at h
  rename_i o f
  split at h
  case h_2=>simp at h
  rename_i a t d e;simp only[ee]at h;subst h;obtain⟨i1,i2⟩:=N9 e;refine⟨by simp[i1],fun p c=>?_⟩;simp only[b1,List.zip_cons_cons,bv]at c;rcases c with rfl|c
  ·simp only[ZO d];exact f
  ·exact i2 p c
end
mutual
def T9:AV->List Nat->List Nat
 | .p _,acc=>acc
 | .ptr b _,acc| .cA b _ _ _ _,acc| .sl b _ _ _ _,acc| .map b,acc=>b::acc
 | .func _ fi ca,acc=>yA fi (yA ca acc)
 | .st _ fs,acc| .aC fs,acc=>yA fs acc
def yA:List AV->List Nat->List Nat
 |[],acc=>acc
 |v::r,acc=>T9 v (yA r acc)
end
def aGW:Obj->List Nat
 | .box _ t=>T9 t []
 | .arr _ _ _ es=>yA es []
 |_=>[]
def HZ(H:al):Nat->List Nat->List Nat->List Nat
 |0,_,acc=>acc
 |_,[],acc=>acc
 |n+1,b::r,acc=>match mR b acc 0 with
  |some _=>HZ H n r acc
  |none=>HZ H n (match H[b]? with
   |some o=>aGW o++r
   |none=>r) (b::acc)
def nodupB:List Nat->Bool
 |[]=>true
 |x::r=>(match mR x r 0 with
  |some _=>false
  |none=>true)&&nodupB r
theorem Oe{b:Nat}:∀{l:List Nat}{i:Nat},mR b l i=none->b∉l
 |[],_,_=>by simp
 |x::r,i,h=>by
  simp only[mR]at h;cases a:dx x b
  ·simp only[a,cond_false]at h;have:=Oe h;simp only[bv,not_or];refine⟨fun e=>?_,this⟩;subst e;rw[ea]at a;cases a
  ·simp[a]at h
theorem Ol:∀{l:List Nat},nodupB l=true->l.Nodup
 |[],_=>dl
 |x::r,h=>by
  simp only[nodupB,av]at h;rw[dd];refine⟨?_,Ol h.2⟩;have a:=h.1
  split at a
  ·simp at a
  ·rename_i hn;exact Oe hn
def Ek(H:al)(b v:Nat):Bool:=match H[b]? with
 |some .hole|none=>false
 |some (.arr _ az _ _)=>dq v az
 |some _=>true
theorem aGX{H:al}{b v:Nat}(h:Ek H b v=true):aL H (b,v):=by
 unfold Ek at h
 split at h
 ·simp at h
 ·simp at h
 ·rename_i k az ak c a;exact⟨_,a,dG h⟩
 ·rename_i o d e a;refine⟨o,a,?_⟩;cases o with
  |hole=>exact(d rfl).elim
  |arr k az ak c=>exact(e _ _ _ _ rfl).elim
  |_=>trivial
mutual
def vC(H:al):AV->Bool
 | .p _=>true
 | .ptr b _| .map b=>Ek H b 0
 | .cA b az _ _ _| .sl b az _ _ _=>Ek H b az
 | .func _ fi ca=>qc H fi&&qc H ca
 | .st _ fs| .aC fs=>qc H fs
def qc(H:al):List AV->Bool
 |[]=>true
 |v::r=>vC H v&&qc H r
end
mutual
theorem GH{H:al}:∀{a:AV},vC H a=true->aF (aL H) a
 | .p _,_=>by simp[aF]
 | .ptr _ _,h| .map _,h| .cA _ _ _ _ _,h| .sl _ _ _ _ _,h=>by
  simp only[vC]at h;simp only[aF];exact aGX h
 | .func _ fi ca,h=>by
  simp only[vC,av]at h;simp only[aF];exact⟨sK h.1,sK h.2⟩
 | .st _ _,h| .aC _,h=>by
  simp only[vC]at h;simp only[aF];exact sK h
theorem sK{H:al}:∀{l:List AV},qc H l=true->ba (aL H) l
 |[],_=>by simp[ba]
 |v::r,h=>by
  simp only[qc,av]at h;simp only[ba];exact⟨GH h.1,sK h.2⟩
end
def Dk(H:al):Obj->Bool
 | .box _ t=>vC H t
 | .arr _ _ _ es=>qc H es
 | .dF _ vs=>qc H vs
 | .loop _=>false
 |_=>true
theorem Oh{H:al}{o:Obj}(h:Dk H o=true):o.refs (aL H):=by
 cases o<;>simp only[Dk]at h<;>simp only[Obj.refs]
 ·exact GH h
 ·exact sK h
 ·exact sK h
 ·simp at h
def vp(p:Obj->Bool):List Obj->Bool
 |[]=>true
 |o::r=>p o&&vp p r
theorem Ak{p:Obj->Bool}:∀{l:List Obj},vp p l=true->∀o∈l,p o=true
 |[],_,o,h=>by simp at h
 |a::r,h,o,b=>by
  simp only[vp,av]at h;rcases bv.1 b with rfl|b
  ·exact h.1
  ·exact Ak h.2 o b
def Dh(n:Nat):List Nat->Bool
 |[]=>true
 |x::r=>dq (x+1) n&&Dh n r
theorem HG{n:Nat}:∀{l:List Nat},Dh n l=true->∀x∈l,x<n
 |[],_,o,h=>by simp at h
 |a::r,h,o,b=>by
  simp only[Dh,av]at h;rcases bv.1 b with rfl|b
  ·exact dG h.1
  ·exact HG h.2 o b
def De:Obj->Bool
 | .hole=>false
 |_=>true
def AE(run:List AV->al->Option (AV×al))(args:List AV)(H:al):Option aZ:=
 let bs:=HZ H 1000 (yA args []) []
 match oL bs args,Ar bs H bs with
 |some gP,some H0=>bif nodupB bs&&(Dh H.length bs&&(qc H0 gP&&vp (Dk H0) H0))then
  match run gP H0 with
  |some (v0,H1)=>bif dq H0.length H1.length&&(vp De (H1.take H0.length))then some (eg bs H.length H0 H1 v0)else none
  |none=>none
  else none
 |_,_=>none
theorem Gx{P:a1}{f:a0}{run:List AV->al->Option (AV×al)}(n:∀args H v H',run args H=some (v,H')->dE P f H args H' v){args:List AV}{H:al}{e:aZ}(h:AE run args H=some e):
 vM P f args H.length e/\rH H e:=by
 unfold AE at h;dsimp only at h
 split at h
 case h_2=>simp at h
 rename_i gP H0 g i;simp only[ao,ed,av]at h;obtain⟨⟨g1,g2,g3,g4⟩,h⟩:=h
 split at h
 case h_2=>simp at h
 rename_i q H1 j;simp only[ed,ee]at h;obtain⟨⟨g5,g7⟩,rfl⟩:=h;obtain⟨k1,k2⟩:=N9 (base:=H.length) i;have hf:=(n _ _ _ _ j).frame _ H.length k1.symm (Ol g1) (HG g2) (dG g5) (sK g3) (fun b o k=>Oh (Ak g4 o (ck k)));rw[sJ g]at hf;refine⟨hf,k2,fun p d=>?_⟩;simp only[eg]at d;have c:=cc d;refine⟨HG g2 _ c.1,fun l=>?_⟩;obtain⟨o,m,a⟩:=bw.1 c.2;rw[l]at a;have:=Ak g7 o m;rw[av1.1 a]at this;simp[De]at this
mutual
theorem AF:∀v:AV,dc (fun i=>i) v=v
 | .p _| .sl .. | .cA .. | .ptr .. | .map _=>rfl
 | .st u vs=>by simp only[dc,sO vs]
 | .aC vs=>by simp only[dc,sO vs]
 | .func f a b=>by simp only[dc,sO a,sO b]
theorem sO:∀l:List AV,dt (fun i=>i) l=l
 |[]=>rfl
 |v::l=>by simp only[dt,AF v,sO l]
end
theorem OG:∀e:Env,xX (fun i=>i) e=e
 |[]=>rfl
 |(x,v)::r=>by simp only[xX,AF v,OG r]
theorem Tc(o:Obj):dD (fun i=>i) o=o:=by
 cases o<;>simp only[dD,AF,sO,OG]
theorem DP(n:Nat):sig (bl n) n=fun i=>i:=by
 funext i
 by_cases h:i<n
 ·rw[xF (by simpa using h)];simp
 ·rw[xG (by simpa using h)];simp;omega
def gM(H:al):List (Nat×Obj):=(bl H.length).zip H
theorem yt{H:al}{p:Nat×Obj}(h:p∈gM H):H[p.1]?=some p.2:=by
 rw[gM,bi]at h;obtain⟨i,hi,a⟩:=h;rw[cb]at a;subst a;simp
def Ed(H:al):Env->Bool
 |[]=>true
 |(_,v)::r=>vC H v&&Ed H r
theorem Ri{H:al}:∀{e:Env},Ed H e=true->∀x,aF (aL H) (aQ e x)
 |[],_,x=>by simp[aQ,aF]
 |(y,v)::r,h,x=>by
  simp only[Ed,av]at h;simp only[aQ]
  split
  ·exact GH h.1
  ·exact Ri h.2 x
def Sp(H:al):Obj->Bool
 | .loop L=>Ed H L.env
 |o=>Dk H o
theorem asK{H:al}{o:Obj}(h:Sp H o=true):o.refs (aL H):=by
 cases o<;>first
  |exact Oh h
  |exact Ri h
def Ho(run:Nat->al->List AV->Option (al×AV))(b:Nat)(args:List AV)(H:al):Option aZ:=
 bif qc H args&&vp (Sp H) H then
  match run b H args with
  |some (H1,v)=>bif dq H.length H1.length&&(vp De (H1.take H.length))then some {v,ar:=gM H,aM:=(bl H.length).zip (H1.take H.length),aY:=H1.drop H.length}else none
  |none=>none
 else none
theorem Zn{P:a1}{run:Nat->al->List AV->Option (al×AV)}(k:∀b H args H' v,run b H args=some (H',v)->gz P b H args H' v){b:Nat}{args:List AV}{H:al}{e:aZ}(h:Ho run b args H=some e):
 rD P b args H.length e/\rH H e:=by
 unfold Ho at h;simp only[ao,ed,av]at h;obtain⟨⟨g3,g4⟩,h⟩:=h
 split at h
 case h_2=>simp at h
 rename_i H1 f g;simp only[ed,ee]at h;obtain⟨⟨g5,g7⟩,rfl⟩:=h;have hf:=(k _ _ _ _ _ g).frame (bl H.length) H.length s_ b2 (fun b a=>by simpa using a) (dG g5) (sK g3) (fun b o a=>asK (Ak g4 o (ck a)));have e:eg (bl H.length) H.length H H1 f={v:=f,ar:=gM H,aM:=(bl H.length).zip (H1.take H.length),aY:=H1.drop H.length}:=by
  simp only[eg,DP,AF];rw[show(dD fun i=>i)=id from funext Tc,b0,b0,b0,gM]
 rw[e,DP,sO]at hf;refine⟨hf,fun p c=>yt c,fun p c=>?_⟩;have d:=cc c;refine⟨by simpa using d.1,fun j=>?_⟩;have:=Ak g7 p.2 d.2;rw[j]at this;simp[De]at this
end Go.ag
namespace Go.ag
variable[Gl]
inductive RT where
 |lf
 |vl (v:AV)
 |nd (a b c d:RT)
inductive Q4 where|a|b|c|d
def q4(n:Nat):Q4:=match n with
 |0=>.a
 |1=>.b
 |2=>.c
 |_=>.d
def pathOf:Nat->Nat->List Q4
 |0,_=>[]
 |k+1,n=>q4 (n% 4)::pathOf k (n/4)
noncomputable def AO(p:List Q4):RT->AV:=
 dp (motive:=fun _=>RT->AV) (fun R=>RT.rec (motive:=fun _=>AV) (.p .undef) (fun v=>v) (fun _ _ _ _ _ _ _ _=>.p .undef) R)
  (fun q _ e R=>RT.rec (motive:=fun _=>AV) (.p .undef) (fun _=>.p .undef) (fun a b c d _ _ _ _=>Q4.rec (motive:=fun _=>AV) (e a) (e b) (e c) (e d) q) R) p
noncomputable def Jd(v:AV)(p:List Q4):RT->RT:=
 dp (motive:=fun _=>RT->RT) (fun _=>.vl v)
  (fun q _ e R=>RT.rec (motive:=fun _=>RT)
   (Q4.rec (motive:=fun _=>RT) (.nd (e .lf) .lf .lf .lf) (.nd .lf (e .lf) .lf .lf) (.nd .lf .lf (e .lf) .lf) (.nd .lf .lf .lf (e .lf)) q)
   (fun _=>Q4.rec (motive:=fun _=>RT) (.nd (e .lf) .lf .lf .lf) (.nd .lf (e .lf) .lf .lf) (.nd .lf .lf (e .lf) .lf) (.nd .lf .lf .lf (e .lf)) q)
   (fun a b c d _ _ _ _=>Q4.rec (motive:=fun _=>RT) (.nd (e a) b c d) (.nd a (e b) c d) (.nd a b (e c) d) (.nd a b c (e d)) q) R) p
noncomputable def mi(k:Nat)(R:RT)(n:Nat):AV:=bif dq (n+1) (4^k)then AO (pathOf k n) R else .p .undef
noncomputable def Be(k:Nat)(R:RT)(n:Nat)(v:AV):RT:=Jd v (pathOf k n) R
theorem Pz:∀(p:List Q4),AO p .lf=.p .undef
 |[]=>rfl
 |_::_=>rfl
theorem NW(v:AV):∀(p:List Q4)(R:RT),AO p (Jd v p R)=v
 |[],_=>rfl
 |x::p,R=>by
  cases R<;>cases x<;>exact NW v p _
theorem MR(v:AV):∀(p q:List Q4)(R:RT),p.length=q.length->p≠q->AO p (Jd v q R)=AO p R
 |[],[],R,_,h=>(h rfl).elim
 |[],_::_,R,h,_=>by simp at h
 |_::_,[],R,h,_=>by simp at h
 |x::p,y::q,R,h,f=>by
  have g:=fun R(f:p≠q)=>MR v p q R (by simpa using h) f;have i:=Pz p;cases R with
  |nd a b c d=>
   cases x<;>cases y<;>first
    |rfl
    |exact g _ (fun e=>f (by rw[e]))
  |_=>
   cases x<;>cases y<;>first
    |exact i
    |exact(g _ (fun e=>f (by rw[e]))).trans i
theorem FH:∀k n,(pathOf k n).length=k
 |0,_=>rfl
 |k+1,n=>by simp[pathOf,FH k]
theorem aQi{m n:Nat}(a:m<4)(hn:n<4)(h:q4 m=q4 n):m=n:=by
 have hc:∀n,n<4->n=0\/n=1\/n=2\/n=3:=o_
 rcases hc m a with rfl|rfl|rfl|rfl<;>rcases hc n hn with rfl|rfl|rfl|rfl<;>simp[q4]at h<;>rfl
theorem NY:∀(k m n:Nat),m<4^k->n<4^k->pathOf k m=pathOf k n->m=n
 |0,m,n,a,hn,_=>by simp at a hn;omega
 |k+1,m,n,a,hn,h=>by
  simp only[pathOf,List.cons.injEq]at h;have b:=aQi (ec _ o_) (ec _ o_) h.1;have c:=NY k (m/4) (n/4) (by rw[eb]at a;omega) (by rw[eb]at hn;omega) h.2;omega
theorem Q7(k n:Nat):mi k .lf n=.p .undef:=by
 simp[mi,Pz]
theorem aCW{a b:Nat}(h:a<=b):dq a b=true:=dy h
theorem Rx{a b:Nat}(h:¬a<=b):dq a b=false:=by
 cases c:dq a b
 ·rfl
 ·exact(h (dG c)).elim
theorem Gg(k:Nat)(R:RT)(d x:Nat)(v:AV)(h:d<4^k):mi k (Be k R d v) x=if x=d then v else mi k R x:=by
 unfold mi Be
 by_cases hx:x+1<=4^k
 ·simp only[aCW hx,cond_true]
  by_cases a:x=d
  ·subst a;rw[NW,if_pos rfl]
  ·rw[if_neg a,MR _ _ _ _ (by rw[FH,FH]) (fun e=>a (NY k x d o_ h e))]
 ·have:x≠d:=by omega
  simp only[Rx hx,cond_false,this,if_false]
def Rel(k:Nat)(e:Env)(R:RT):Prop:=∀x,aQ e x=mi k R x
noncomputable def mX(k:Nat)(d:Option Nat)(v:AV)(R:RT):Option RT:=
 match d with
 |none=>some R
 |some d=>bif dq (d+1) (4^k)then some (Be k R d v)else none
theorem zT{k:Nat}{d:Option Nat}{v:AV}{R a:RT}{e:Env}(h:mX k d v R=some a)(b:Rel k e R):Rel k (put d v e) a:=by
 unfold mX at h
 split at h
 ·simp only[ee]at h;subst h;exact b
 ·simp only[ao,ed,ee]at h;obtain⟨c,rfl⟩:=h;intro x;rw[Gg _ _ _ _ _ (by have:=dG c;omega)];simp only[put,aQ]
  split
  ·rfl
  ·exact b x
noncomputable def l9(k:Nat)(R:RT):ay->AV
 | .tmp t=>mi k R t
 | .const v=>.p (ofConst v)
 | .global g=>.p (Gl.g g)
 | .func f=>.p (.func f [] [])
theorem Dx{k:Nat}{R:RT}{e:Env}(a:Rel k e R):l9 k R=ev e:=by
 funext o;cases o<;>simp[l9,ev,a _]
def tz(H:al)(e:aZ):al:=
 match e.aM,e.aY with
 |[],[]=>H
 |_,_=>bA H e.aM++e.aY
theorem PM(H:al)(e:aZ):tz H e=bA H e.aM++e.aY:=by
 unfold tz;split
 ·rename_i a b;simp[a,b,bA]
 ·rfl
structure lW where
 cP:a0->List AV->al->Option (AV×al)
 cD:a0->List AV->al->Option aZ
 cY:Nat->al->List AV->Option (al×AV)
 cI:AV->Nat->al->Option al
 Eb:Nat->List AV->al->Option aZ
structure mj(P:a1)(B:lW):Prop where
 cP:∀f args H v H',B.cP f args H=some (v,H')->∀K:AV->al->Prop,K v H'->jg P false f args H K
 cD:∀f args H e,B.cD f args H=some e->∀K:aZ->Prop,K e->jn P f args H K
 cY:∀b H args H' v,B.cY b H args=some (H',v)->gz P b H args H' v
 cI:∀it b H H',B.cI it b H=some H'->∀K:al->Prop,K H'->kV P it b H K
 Eb:∀b args H e,B.Eb b args H=some e->rD P b args H.length e/\rH H e
section
variable(P:a1)(ah:a0->Bool)(B:lW)(k:Nat)
noncomputable def Bb(o:Oper)(R:RT)(H:al):Option (RT×al):=
 match o.op with
 | .call {callee:=.value f,args,.. }=>match(match l9 k R f with
  | .p (.func g fi ca)=>B.cP g (fi.map .p++args.toList.map (l9 k R)++ca.map .p) H
  | .func g fi ca=>B.cP g (fi++args.toList.map (l9 k R)++ca) H
  | .map b=>match B.cY b H (args.toList.map (l9 k R))with
   |some (H',v)=>some (v,H')
   |none=>none
  |_=>none)with
  |some (v,H')=>match mX k o.dst v R with
   |some a=>some (a,H')
   |none=>none
  |none=>none
 |_=>match Es P ah o (l9 k R) H with
  |some e=>match mX k o.dst e.v R with
   |some a=>some (a,tz H e)
   |none=>none
  |none=>none
noncomputable def Dv(a:Array Oper)(j:Nat)(R:RT):AV:=
 match(a[j]?).bind (·.dst)with
 |some d=>mi k R d
 |none=>.p (.aC [])
noncomputable def qw(b:Array Oper):List Oper->RT->al->Option (RT×al)
 |[],R,H=>some (R,H)
 |o::r,R,H=>match o.guard with
  |none=>match Bb P ah B k o R H with
   |some (a,H')=>qw b r a H'
   |none=>none
  |some (j,want)=>match Dv k b j R with
   | .p (.bool t)=>match t,want with
    |true,true|false,false=>match Bb P ah B k o R H with
     |some (a,H')=>qw b r a H'
     |none=>none
    |_,_=>match mX k o.dst (.p (.aC [])) R with
     |some a=>qw b r a H
     |none=>none
   | .p (.aC [])=>match mX k o.dst (.p (.aC [])) R with
    |some a=>qw b r a H
    |none=>none
   |_=>none
noncomputable def A1(o:Oper)(R:RT)(H:al):Option aZ:=
 match o.op with
 | .call {callee:=.value f,args,.. }=>match l9 k R f with
  | .p (.func g fi ca)=>B.cD g (fi.map .p++args.toList.map (l9 k R)++ca.map .p) H
  | .func g fi ca=>B.cD g (fi++args.toList.map (l9 k R)++ca) H
  | .map b=>B.Eb b (args.toList.map (l9 k R)) H
  |_=>none
 |_=>Es P ah o (l9 k R) H
noncomputable def qe(b:Array Oper):List Oper->Nat->List Touch->RT->al->Option (RT×al)
 |[],_,acc,R,H=>bif jL b acc then some (R,H)else none
 |o::r,i,acc,R,H=>match o.guard with
  |none=>match A1 P ah B k o R H with
   |some e=>match mX k o.dst e.v R with
    |some a=>qe b r (i+1) (ij i H.length e acc) a (tz H e)
    |none=>none
   |none=>none
  |some (j,want)=>match Dv k b j R with
   | .p (.bool t)=>match t,want with
    |true,true|false,false=>match A1 P ah B k o R H with
     |some e=>match mX k o.dst e.v R with
      |some a=>qe b r (i+1) (ij i H.length e acc) a (tz H e)
      |none=>none
     |none=>none
    |_,_=>match mX k o.dst (.p (.aC [])) R with
     |some a=>qe b r (i+1) acc a H
     |none=>none
   | .p (.aC [])=>match mX k o.dst (.p (.aC [])) R with
    |some a=>qe b r (i+1) acc a H
    |none=>none
   |_=>none
abbrev Out:=Option (bF×RT×al)
def AM(f:RT->al->Out):Nat->RT->al->Out
 |0,_,_=>none
 |n+1,R,H=>match f R H with
  |some (.normal,a,H')=>AM f n a H'
  |r=>r
noncomputable def yy(k:Nat)(R:RT):Nat->Env
 |0=>[]
 |n+1=>(n,mi k R n)::yy k R n
def avO:Nat:=100000
def DN(j:Option Code):Option bF:=
 match j with
 |none=>some .normal
 |some (.exit id)=>some (.exit id)
 |some .ret=>some .ret
 |_=>none
def I8(b:Nat)(R:RT)(H:al):Out:=
 match H[b]? with
 |some (.loop L)=>match L.st with
  | .busy=>none
  |_=>match DN L.pending with
   |some e=>some (e,R,H.set b (.loop {L with st:=.exhausted}))
   |none=>none
 |_=>none
noncomputable def jm(q:Cx):Code->RT->al->Out
 | .skip,R,H| .label _,R,H=>some (.normal,R,H)
 | .region _ ops draw,R,H=>bif draw then match qe P ah B k ops ops.toList 0 [] R H with
   |some (d,H')=>some (.normal,d,H')
   |none=>none
  else match qw P ah B k ops ops.toList R H with
   |some (d,H')=>some (.normal,d,H')
   |none=>none
 | .seq a b,R,H=>match jm q a R H with
  |some (.normal,d,H')=>jm q b d H'
  |r=>r
 | .cond c a b,R,H=>match l9 k R c with
  | .p (.bool t)=>match t with
   |true=>jm q a R H
   |false=>jm q b R H
  |_=>none
 | .block id b,R,H=>match jm q b R H with
  |some (.exit i,d,H')=>bif dx i id then some (.normal,d,H')else some (.exit i,d,H')
  |r=>r
 | .scope b,R,H=>jm q b R H
 | .loop b,R,H=>AM (fun R H=>jm q b R H) avO R H
 | .rangeFunc f e a b,R,H=>bif dq q.2 H.length&&dq q.1 (4^k)then match B.cI (l9 k R f) H.length (H++[.loop ⟨.ready,none,q.1,e.toList,a,b,yy k R (4^k)⟩])with
   |some H'=>I8 H.length R H'
   |none=>none
  else none
 | .exit id,R,H=>some (.exit id,R,H)
 | .ret,R,H=>some (.ret,R,H)
 |_,_,_=>none
end
section
variable{P:a1}{ah:a0->Bool}{B:lW}{k:Nat}
theorem OY(e:aZ)(dst:Option Tmp)(env:Env)(H:al):e.app dst ⟨env,H⟩=⟨put dst e.v env,tz H e⟩:=by
 simp[aZ.app,PM]
theorem aPt(b:mj P B){o:Oper}{R i:RT}{H H':al}{env:Env}(h:Bb P ah B k o R H=some (i,H'))(g:Rel k env R):
 ∃j,Rel k j i/\∀K:St->Prop,K ⟨j,H'⟩->lO P ah false o K ⟨env,H⟩:=by
 unfold Bb at h;unfold lO;rw[Dx g]at h
 split at h
 ·rename_i f args n c
  split at h
  case h_2=>simp at h
  rename_i v l hc
  split at h
  case h_2=>simp at h
  rename_i m d;simp only[ee,ei]at h;obtain⟨rfl,rfl⟩:=h;refine⟨_,zT d g,fun K a=>?_⟩;simp only[c]
  split at hc
  ·rename_i hf;simp only[hf];exact b.cP _ _ _ _ _ hc _ a
  ·rename_i hf;simp only[hf];exact b.cP _ _ _ _ _ hc _ a
  ·rename_i hf
   split at hc
   ·rename_i l s r;simp only[ee,ei]at hc;obtain⟨rfl,rfl⟩:=hc;simp only[hf];exact⟨_,_,b.cY _ _ _ _ _ r,a⟩
   ·simp at hc
  ·simp at hc
 ·rename_i q
  split at h
  case h_2=>simp at h
  rename_i e p
  split at h
  case h_2=>simp at h
  rename_i m d;simp only[ee,ei]at h;obtain⟨rfl,rfl⟩:=h;refine⟨_,zT d g,fun K a=>?_⟩
  split
  ·rename_i f args n c;exact(q _ _ _ c).elim
  ·exact Sq p (by rw[OY];exact a)
theorem OZ{a:Array Oper}{j:Nat}{R:RT}{env:Env}(b:Rel k env R):Dv k a j R=guardOf a j env:=by
 unfold Dv guardOf;split
 ·rename_i h;simp only[h];exact(b _).symm
 ·rename_i h;simp only[h]
theorem Hu(f:mj P B){c:Array Oper}:∀{l:List Oper}{R a:RT}{H H':al}{env:Env},qw P ah B k c l R H=some (a,H')->Rel k env R->
 ∃b,Rel k b a/\∀K:St->Prop,K ⟨b,H'⟩->jh P ah false c l K ⟨env,H⟩
 |[],R,a,H,H',env,h,d=>by
  simp only[qw,ee,ei]at h;obtain⟨rfl,rfl⟩:=h;exact⟨env,d,fun K g=>g⟩
 |o::l,R,a,H,H',env,h,d=>by
  have run:(match Bb P ah B k o R H with
    |some (a,H')=>qw P ah B k c l a H'
    |none=>none)=some (a,H')->∃b,Rel k b a/\∀K:St->Prop,K ⟨b,H'⟩->lO P ah false o (jh P ah false c l K) ⟨env,H⟩:=by
   intro h
   split at h
   case h_2=>simp at h
   rename_i n H1 e;obtain⟨w,q,a2⟩:=aPt f e d;obtain⟨u,r,s⟩:=Hu f h q;exact⟨u,r,fun K g=>a2 _ (s K g)⟩
  have skip:(match mX k o.dst (.p (.aC [])) R with
    |some a=>qw P ah B k c l a H
    |none=>none)=some (a,H')->∃b,Rel k b a/\∀K:St->Prop,K ⟨b,H'⟩->jh P ah false c l K ⟨put o.dst (.p (.aC [])) env,H⟩:=by
   intro h
   split at h
   case h_2=>simp at h
   rename_i n e;exact Hu f h (zT e d)
  simp only[qw]at h;simp only[jh]
  split at h
  ·rename_i i;simp only[i];exact run h
  ·rename_i j v i;simp only[i];rw[OZ d]at h
   split at h
   ·rename_i t m;simp only[m];cases t<;>cases v
    ·simpa using run h
    ·simpa using skip h
    ·simpa using skip h
    ·simpa using run h
   ·rename_i m;simp only[m];exact skip h
   ·simp at h
theorem aGc(b:mj P B){o:Oper}{R:RT}{H:al}{e:aZ}{env:Env}(h:A1 P ah B k o R H=some e)(l:Rel k env R)(K:aZ->Prop)(a:K e):ln P ah o ⟨env,H⟩ K:=by
 unfold A1 at h;unfold ln;rw[Dx l]at h
 split at h
 ·rename_i f args d c;simp only[c]
  split at h
  ·rename_i hf;simp only[hf];exact b.cD _ _ _ _ h _ a
  ·rename_i hf;simp only[hf];exact b.cD _ _ _ _ h _ a
  ·rename_i hf;simp only[hf];obtain⟨g,i⟩:=b.Eb _ _ _ _ h;exact⟨e,g,i,a⟩
  ·simp at h
 ·rename_i j
  split
  ·rename_i f args d c;exact(j _ _ _ c).elim
  ·exact Sq h a
theorem GV(m:mj P B){f:Array Oper}:∀{l:List Oper}{i:Nat}{b:List Touch}{R a:RT}{H H':al}{env:Env},qe P ah B k f l i b R H=some (a,H')->Rel k env R->
 ∃c,Rel k c a/\∀K:St->Prop,K ⟨c,H'⟩->iw P ah f l i b K ⟨env,H⟩
 |[],i,b,R,a,H,H',env,h,d=>by
  simp only[qe,ao,ed,ee,ei]at h;obtain⟨g,rfl,rfl⟩:=h;exact⟨env,d,fun K n=>⟨g,n⟩⟩
 |o::l,i,b,R,a,H,H',env,h,d=>by
  have run:(match A1 P ah B k o R H with
    |some e=>match mX k o.dst e.v R with
     |some a=>qe P ah B k f l (i+1) (ij i H.length e b) a (tz H e)
     |none=>none
    |none=>none)=some (a,H')->∃c,Rel k c a/\∀K:St->Prop,K ⟨c,H'⟩->ln P ah o ⟨env,H⟩ (fun e=>iw P ah f l (i+1) (ij i H.length e b) K (e.app o.dst ⟨env,H⟩)):=by
   intro h
   split at h
   case h_2=>simp at h
   rename_i e y
   split at h
   case h_2=>simp at h
   rename_i s g;obtain⟨x,u,w⟩:=GV m h (zT g d);exact⟨x,u,fun K n=>aGc m y d _ (by rw[OY];exact w K n)⟩
  have skip:(match mX k o.dst (.p (.aC [])) R with
    |some a=>qe P ah B k f l (i+1) b a H
    |none=>none)=some (a,H')->∃c,Rel k c a/\∀K:St->Prop,K ⟨c,H'⟩->iw P ah f l (i+1) b K ⟨put o.dst (.p (.aC [])) env,H⟩:=by
   intro h
   split at h
   case h_2=>simp at h
   rename_i s g;exact GV m h (zT g d)
  simp only[qe]at h;simp only[iw]
  split at h
  ·rename_i q;simp only[q];exact run h
  ·rename_i j z q;simp only[q];rw[OZ d]at h
   split at h
   ·rename_i t r;simp only[r];cases t<;>cases z
    ·simpa using run h
    ·simpa using skip h
    ·simpa using skip h
    ·simpa using run h
   ·rename_i r;simp only[r];exact skip h
   ·simp at h
theorem PT(R:RT):∀(n:Nat),∀x,aQ (yy k R n) x=if x<n then mi k R x else .p .undef
 |0,x=>by simp[yy,aQ]
 |n+1,x=>by
  simp only[yy,aQ,PT R n]
  by_cases h:x=n
  ·subst h;simp
  ·simp only[h,if_false]
   by_cases a:x<n
   ·simp[a,Nat.lt_succ_of_lt a]
   ·have:¬x<n+1:=by omega
    simp[a,this]
theorem avg(k:Nat)(R:RT)(n:Nat)(h:4^k<=n):mi k R n=.p .undef:=by
 unfold mi;rw[Rx o_];rfl
theorem aGh{R:RT}{env:Env}(a:Rel k env R):∀x,aQ (yy k R (4^k)) x=aQ env x:=by
 intro x;rw[PT,a]
 split
 ·rfl
 ·rw[avg k R x o_]
theorem avW{j:Option Code}{e:bF}(h:DN j=some e)(Q:bF->St->Prop)(s:St)(hq:Q e s):lJ Q j s:=by
 unfold DN at h;unfold lJ
 split at h<;>simp at h<;>subst h<;>exact hq
theorem avx{b:Nat}{R a:RT}{H H':al}{e:bF}{env:Env}(h:I8 b R H=some (e,a,H')):a=R/\∀Q:bF->St->Prop,Q e ⟨env,H'⟩->jD b env Q H:=by
 unfold I8 at h
 split at h
 case h_2=>simp at h
 rename_i L c
 have go:(match DN L.pending with
   |some e=>some (e,R,H.set b (.loop {L with st:=.exhausted}))
   |none=>none)=some (e,a,H')->L.st≠.busy->a=R/\∀Q:bF->St->Prop,Q e ⟨env,H'⟩->jD b env Q H:=by
  intro h aO
  split at h
  case h_2=>simp at h
  rename_i e' d;simp only[ee,ei]at h;obtain⟨rfl,rfl,rfl⟩:=h;exact⟨rfl,fun Q hq=>by unfold jD;simp only[c];exact⟨aO,avW d Q _ hq⟩⟩
 split at h
 ·simp at h
 ·rename_i aO;exact go h aO
theorem Z9{q:Cx}{b:Code}{Q:bF->St->Prop}{s s':St}(f:∀c:bF->St->Prop,c .normal s'->cH P ah q b c s)(d:cH P ah q (.loop b) Q s'):cH P ah q (.loop b) Q s:=by
 simp only[cH]at d⊢;obtain⟨I,⟨a,t0,hf,hI⟩,g⟩:=d;refine⟨fun n t=>I n t\/(n=a+1/\t=s),⟨a+1,s,.inl rfl,.inr ⟨rfl,rfl⟩⟩,?_⟩;rintro n t (h|⟨rfl,rfl⟩)
 ·obtain⟨e,u,k1,k2⟩:=qQ b t _ (g n t h);refine k2 _ ?_;cases e with
  |normal=>
   obtain⟨m,i,g1,g2,g3⟩:=k1;exact⟨m,i,g1,g2,.inl g3⟩
  |exit id=>exact k1
  |ret=>exact k1
 ·exact f _ ⟨a,t0,Nat.lt_succ_self _,hf,.inl hI⟩
theorem Z8{q:Cx}{b:Code}{Q:bF->St->Prop}{s s':St}{e:bF}(f:e≠.normal)(d:∀a:bF->St->Prop,a e s'->cH P ah q b a s)(c:Q e s'):cH P ah q (.loop b) Q s:=by
 simp only[cH];refine⟨fun n t=>n=0/\t=s,⟨0,s,.inl rfl,rfl,rfl⟩,?_⟩;rintro n t ⟨rfl,rfl⟩;refine d _ ?_;cases e with
 |normal=>exact(f rfl).elim
 |exit id=>exact c
 |ret=>exact c
theorem Qj{q:Cx}{b:Code}{f:RT->al->Out}(hf:∀{R a:RT}{H H':al}{e:bF}{env:Env},f R H=some (e,a,H')->Rel k env R->∃c,Rel k c a/\∀Q:bF->St->Prop,Q e ⟨c,H'⟩->cH P ah q b Q ⟨env,H⟩):
 ∀(n:Nat){R a:RT}{H H':al}{e:bF}{env:Env},AM f n R H=some (e,a,H')->Rel k env R->∃c,Rel k c a/\∀Q:bF->St->Prop,Q e ⟨c,H'⟩->cH P ah q (.loop b) Q ⟨env,H⟩
 |0,R,a,H,H',e,env,h,g=>by simp[AM]at h
 |n+1,R,a,H,H',e,env,h,g=>by
  simp only[AM]at h
  split at h
  ·rename_i r H1 o;obtain⟨i,d,a2⟩:=hf o g;obtain⟨m,j,l⟩:=Qj hf n h d;exact⟨m,j,fun Q hq=>Z9 a2 (l Q hq)⟩
  ·rename_i p;obtain⟨i,d,a2⟩:=hf h g;refine⟨i,d,fun Q hq=>Z8 ?_ a2 hq⟩;rintro rfl;exact p _ _ h
theorem nw(m:mj P B){q:Cx}:∀{c:Code}{R l:RT}{H H':al}{e:bF}{env:Env},jm P ah B k q c R H=some (e,l,H')->Rel k env R->
 ∃r,Rel k r l/\∀Q:bF->St->Prop,Q e ⟨r,H'⟩->cH P ah q c Q ⟨env,H⟩
 | .skip,R,l,H,H',e,env,h,d| .label _,R,l,H,H',e,env,h,d| .exit _,R,l,H,H',e,env,h,d| .ret,R,l,H,H',e,env,h,d=>by
  simp only[jm,ee,ei]at h;obtain⟨rfl,rfl,rfl⟩:=h;exact⟨env,d,fun Q hq=>hq⟩
 | .region id ops draw,R,l,H,H',e,env,h,d=>by
  simp only[jm]at h;cases draw
  ·simp only[cond_false]at h
   split at h
   case h_2=>simp at h
   rename_i o H1 n;simp only[ee,ei]at h;obtain⟨rfl,rfl,rfl⟩:=h;obtain⟨j,g,a2⟩:=Hu m n d;exact⟨j,g,fun Q hq=>by simp only[cH];exact a2 _ hq⟩
  ·simp only[cond_true]at h
   split at h
   case h_2=>simp at h
   rename_i o H1 n;simp only[ee,ei]at h;obtain⟨rfl,rfl,rfl⟩:=h;obtain⟨j,g,a2⟩:=GV m n d;exact⟨j,g,fun Q hq=>by simp only[cH,if_true];exact a2 _ hq⟩
 | .seq a b,R,l,H,H',e,env,h,d=>by
  simp only[jm]at h
  split at h
  ·rename_i o H1 n;obtain⟨j,g,a2⟩:=nw m n d;obtain⟨w,u,v⟩:=nw m h g;exact⟨w,u,fun Q hq=>by simp only[cH];exact a2 _ (v Q hq)⟩
  ·rename_i p;obtain⟨j,g,a2⟩:=nw m h d;refine⟨j,g,fun Q hq=>by
    simp only[cH];refine a2 _ ?_;cases e with
    |normal=>exact(p _ _ h).elim
    |exit id=>exact hq
    |ret=>exact hq⟩
 | .cond c a b,R,l,H,H',e,env,h,d=>by
  simp only[jm,Dx d]at h
  split at h
  case h_2=>simp at h
  rename_i t s;cases t
  ·obtain⟨j,g,a2⟩:=nw m h d;exact⟨j,g,fun Q hq=>by simp only[cH,s];exact a2 Q hq⟩
  ·obtain⟨j,g,a2⟩:=nw m h d;exact⟨j,g,fun Q hq=>by simp only[cH,s,if_true];exact a2 Q hq⟩
 | .block id b,R,l,H,H',e,env,h,d=>by
  simp only[jm]at h
  split at h
  ·rename_i i o H1 n;obtain⟨j,g,a2⟩:=nw m n d;cases hi:dx i id
   ·simp only[hi,cond_false,ee,ei]at h;obtain⟨rfl,rfl,rfl⟩:=h;refine⟨j,g,fun Q hq=>by
     simp only[cH];refine a2 _ ?_;have:i≠id:=fun e=>by subst e;simp[ea]at hi
     simp only[this,if_false];exact hq⟩
   ·simp only[hi,cond_true,ee,ei]at h;obtain⟨rfl,rfl,rfl⟩:=h;refine⟨j,g,fun Q hq=>by
     simp only[cH];refine a2 _ ?_;simp only[dX hi,if_true];exact hq⟩
  ·rename_i p;obtain⟨j,g,a2⟩:=nw m h d;refine⟨j,g,fun Q hq=>by
    simp only[cH];refine a2 _ ?_;cases e with
    |normal=>exact hq
    |exit id=>exact(p _ _ _ h).elim
    |ret=>exact hq⟩
 | .scope b,R,l,H,H',e,env,h,d=>by
  simp only[jm]at h;obtain⟨j,g,a2⟩:=nw m h d;exact⟨j,g,fun Q hq=>by simp only[cH];exact a2 Q hq⟩
 | .loop b,R,l,H,H',e,env,h,d=>by
  simp only[jm]at h;exact Qj (fun h d=>nw m h d) _ h d
 | .rangeFunc f z a b,R,l,H,H',e,env,h,d=>by
  simp only[jm,ao,ed,av]at h;obtain⟨⟨n,y⟩,h⟩:=h
  split at h
  case h_2=>simp at h
  rename_i H1 hI;obtain⟨rfl,x⟩:=avx (env:=env) h;refine⟨env,d,fun Q hq=>?_⟩;simp only[cH];rw[Dx d]at hI;exact⟨dG n,_,aGh d,m.cI _ _ _ _ hI _ (x Q hq)⟩
 | .goto _,_,_,_,_,_,_,h,_=>by simp[jm]at h
 | .refuse _,_,_,_,_,_,_,h,_=>by simp[jm]at h
end
def wj(n:Nat):Nat:=
 match dq n 16,dq n 64,dq n 256,dq n 1024 with
 |true,_,_,_=>2
 |_,true,_,_=>3
 |_,_,true,_=>4
 |_,_,_,true=>5
 |_,_,_,_=>6
noncomputable def AJ(k:Nat):Nat->List AV->RT
 |_,[]=>.lf
 |i,v::r=>Be k (AJ k (i+1) r) i v
theorem Qv(k:Nat):∀(l:List AV)(i:Nat),i+l.length<=4^k->Rel k (j0 i l) (AJ k i l)
 |[],i,_=>fun x=>by simp[j0,AJ,aQ,Q7]
 |v::r,i,h=>fun x=>by
  simp only[List.length_cons]at h;rw[AJ,Gg _ _ _ _ _ o_];simp only[j0,aQ]
  split
  ·rfl
  ·exact Qv k r (i+1) o_ x
noncomputable def A3(k:Nat):Env->Option RT
 |[]=>some .lf
 |(x,v)::r=>match A3 k r with
  |some R=>bif dq (x+1) (4^k)then some (Be k R x v)else none
  |none=>none
theorem PS(k:Nat):∀{e:Env}{R:RT},A3 k e=some R->Rel k e R
 |[],R,h=>by
  simp only[A3,ee]at h;subst h;intro x;simp[aQ,Q7]
 |(y,v)::r,R,h=>by
  simp only[A3]at h
  split at h
  case h_2=>simp at h
  rename_i c a;simp only[ao,ed,ee]at h;obtain⟨b,rfl⟩:=h;intro x;rw[Gg _ _ _ _ _ (by have:=dG b;omega)];simp only[aQ]
  split
  ·rfl
  ·exact PS k a x
noncomputable def Ey(P:a1)(k:Nat)(R:RT)(H:al):List a3->Option (List AV)
 |[]=>some []
 |r::rs=>match(match r with
  | .tmp t=>some (mi k R t)
  | .cell a T=>match mi k R a with
   | .ptr b path=>match H[b]? with
    |some (.box _ t)=>match fX t path with
     |some v=>bif sE (kindOf P T) (aa v)then some v else none
     |none=>none
    |_=>none
   |_=>none),Ey P k R H rs with
  |some v,some vs=>some (v::vs)
  |_,_=>none
theorem Q8{P:a1}{k:Nat}{R:RT}{H:al}{env:Env}(d:Rel k env R):∀{e:List a3}{vs:List AV},Ey P k R H e=some vs->gN P ⟨env,H⟩ e=some vs
 |[],vs,h=>h
 |r::e,vs,h=>by
  simp only[Ey]at h
  split at h
  case h_2=>simp at h
  rename_i v o c f;simp only[ee]at h;subst h;have g:tf P ⟨env,H⟩ r=some v:=by
   cases r with
   |tmp t=>simp only[tf];rw[d];exact c
   |cell a T=>
    simp only[tf];dsimp only at c;rw[<-d]at c
    split at c
    case h_2=>simp at c
    rename_i b n j
    split at c
    case h_2=>simp at c
    rename_i fz t l
    split at c
    case h_2=>simp at c
    rename_i u m;simp only[ao,ed,ee]at c;obtain⟨i,rfl⟩:=c;rw[j];simp only[l,m,(ka i).1,if_true]
  simp only[gN,g,Q8 d f]
section
variable(P:a1)(ah:a0->Bool)
noncomputable def DS(B:lW)(fn:Func)(args:List AV)(N:Nat)(H:al):Option (AV×al):=
 bif dq args.length fn.ntmps&&dq fn.ntmps (4^wj fn.ntmps)then
  match jm P ah B (wj fn.ntmps) (fn.ntmps,N) (fn.body.getD .skip) (AJ (wj fn.ntmps) 0 args) H with
  |some (.exit _,_,_)=>none
  |some (_,R,H')=>match Ey P (wj fn.ntmps) R H' fn.results.toList with
   |some vs=>some (oneOf vs,H')
   |none=>none
  |none=>none
 else none
structure qz where
 jz:a0->Option Func
 Eh:a0->List PV->Option PV
 Ei:a0->List AV->al->Option (AV×al)
 nN:a0->a0->Nat
 yz:a0->List AV->al->Option (List (Nat×Obj)×PV)
noncomputable def tS(pl:qz)(B:a0->lW)(f:a0)(vs:List PV):Option PV:=
 match pl.Eh f vs with
 |some v=>some v
 |none=>match pl.jz f with
  |some fn=>match DS P ah (B f) fn (vs.map .p) 0 []with
   |some (v,H)=>fP H 9 v
   |none=>none
  |none=>none
noncomputable def rR(pl:qz)(B:a0->lW)(f:a0)(args:List AV)(H:al):Option (AV×al):=
 match pl.Ei f args H with
 |some r=>some r
 |none=>match pl.jz f with
  |some fn=>DS P ah (B f) fn args H.length H
  |none=>none
noncomputable def Ds(B:lW)(b:Nat)(H:al)(args:List AV):Option (al×AV):=
 match H[b]? with
 |some (.loop L)=>bif dx args.length L.params.length&&(L.params.all (fun x=>decide (x<L.n))&&codeOk fit L.n L.assign&&codeOk fit L.n L.body)then
  match A3 (wj L.n) (u9 L.params args L.env)with
  |some R=>match jm P ah B (wj L.n) (L.n,H.length) L.assign R H with
   |some (.normal,f,H1)=>match H1[b]? with
    |some (.loop c)=>match c.st with
     | .ready=>match jm P ah B (wj L.n) (L.n,H.length) L.body f (H1.set b (.loop {c with st:=.busy}))with
      |some (e,_,a)=>match a[b]? with
       |some (.loop d)=>some (a.set b (.loop {d with st:=if(jf e).isNone then .ready else .done,pending:=jf e}),.p (.bool (jf e).isNone))
       |_=>none
      |none=>none
     |_=>none
    |_=>none
   |_=>none
  |none=>none
  else none
 |_=>none
noncomputable def IQ(pl:qz)(B:a0->lW)(it:AV)(b:Nat)(H:al):Option al:=
 match it with
 | .p (.func g fi ca)=>match rR P ah pl B g (fi.map .p++[.map b]++ca.map .p) H with
  |some (_,H')=>some H'
  |none=>none
 | .func g fi ca=>match rR P ah pl B g (fi++[.map b]++ca) H with
  |some (_,H')=>some H'
  |none=>none
 |_=>none
noncomputable def Iy(pl:qz)(B:a0->lW)(c f:a0)(args:List AV)(H:al):Option (AV×al):=
 match pl.yz f args H with
 |some (_,v)=>some (.p v,H)
 |none=>match pl.nN c f with
 |0=>match fq args with
  |some vs=>match tS P ah pl B f vs with
   |some v=>some (.p v,H)
   |none=>none
  |none=>rR P ah pl B f args H
 |1=>rR P ah pl B f args H
 |3=>match AE (rR P ah pl B f) args H with
  |some e=>some (e.v,tz H e)
  |none=>none
 |_=>match pG H args with
  |some (vs,H1)=>match tS P ah pl B f vs with
   |some v=>some (.p v,H1)
   |none=>none
  |none=>none
noncomputable def Ix(pl:qz)(B:a0->lW)(c f:a0)(args:List AV)(H:al):Option aZ:=
 match pl.yz f args H with
 |some (ar,v)=>some {v:=.p v,ar}
 |none=>match pl.nN c f with
 |3=>AE (rR P ah pl B f) args H
 |_=>match fq args with
 |some vs=>match tS P ah pl B f vs with
  |some v=>some {v:=.p v}
  |none=>none
 |none=>match rC H args with
  |some (vs,bs)=>match nA H bs with
   |some (ar,aM)=>match tS P ah pl B f vs with
    |some v=>some {v:=.p v,ar,aM}
    |none=>none
   |none=>none
  |none=>AE (rR P ah pl B f) args H
def xL:lW:=⟨fun _ _ _=>none,fun _ _ _=>none,fun _ _ _=>none,fun _ _ _=>none,fun _ _ _=>none⟩
noncomputable def mE(pl:qz):Nat->a0->lW
 |0,_=>xL
 |n+1,c=>⟨Iy P ah pl (mE pl n) c,Ix P ah pl (mE pl n) c,Ds P ah (mE pl n c),IQ P ah pl (mE pl n),Ho (Ds P ah (mE pl n c))⟩
end
structure rz(P:a1)(pl:qz):Prop where
 mix:P.follows .mixedOrders=true
 jz:∀f fn,pl.jz f=some fn->aA P f fn
 Eh:∀f vs v,pl.Eh f vs=some v->aq P f vs v
 Ei:∀f args H v H',pl.Ei f args H=some (v,H')->dE P f H args H' v
 yz:∀f args H ar v,pl.yz f args H=some (ar,v)->Ib P f args ar v/\∀p∈ar,H[p.1]?=some p.2
section
variable{P:a1}{ah:a0->Bool}{B1:lW}{B:a0->lW}{pl:qz}
theorem PJ(f:mj P B1){fn:Func}{args:List AV}{N:Nat}{H H':al}{v:AV}(h:DS P ah B1 fn args N H=some (v,H')):
 args.length<=fn.ntmps/\∃e a vs,(match e with
  |bF.exit _=>False
  |_=>True)/\gN P ⟨a,H'⟩ fn.results.toList=some vs/\oneOf vs=v/\∀Q:bF->St->Prop,Q e ⟨a,H'⟩->cH P ah (fn.ntmps,N) (fn.body.getD .skip) Q ⟨j0 0 args,H⟩:=by
 unfold DS at h;simp only[ao,ed,av]at h;obtain⟨⟨b,c⟩,h⟩:=h;have b:=dG b;have c:=dG c;refine⟨b,?_⟩
 split at h
 ·simp at h
 ·rename_i e R k g hc
  split at h
  case h_2=>simp at h
  rename_i vs j;simp only[ee,ei]at h;obtain⟨rfl,rfl⟩:=h;obtain⟨a,d,a2⟩:=nw f hc (Qv _ args 0 o_);refine⟨e,a,vs,?_,Q8 d j,rfl,a2⟩;cases e with
  |exit i=>exact g i rfl
  |_=>trivial
 ·simp at h
theorem zY(a:rz P pl)(j:∀c,mj P (B c)){f:a0}{vs:List PV}{v:PV}(h:tS P ah pl B f vs=some v):aq P f vs v:=by
 unfold tS at h
 split at h
 ·rename_i v' hk;simp only[ee]at h;subst h;exact a.Eh _ _ _ hk
 ·split at h
  case h_2=>simp at h
  rename_i fn hf
  split at h
  case h_2=>simp at h
  rename_i v' H' k;obtain⟨b,e,m,l,d,g,rfl,i⟩:=PJ (j _) k;exact Eg ah (a.jz _ _ hf) a.mix (by simpa using b) (i _ ⟨d,l,g,h⟩)
theorem uP(a:rz P pl)(j:∀c,mj P (B c)){f:a0}{args:List AV}{H H':al}{v:AV}(h:rR P ah pl B f args H=some (v,H')):dE P f H args H' v:=by
 unfold rR at h
 split at h
 ·rename_i r hk;simp only[ee]at h;subst h;exact a.Ei _ _ _ _ _ hk
 ·split at h
  case h_2=>simp at h
  rename_i fn hf;obtain⟨b,e,l,k,d,g,rfl,i⟩:=PJ (j _) h;exact T4 ah (a.jz _ _ hf) a.mix b (i _ ⟨d,k,g,rfl,.inl rfl⟩)
theorem OV{args:List AV}{vs:List PV}(h:fq args=some vs):args=vs.map .p:=oC h
theorem awr(b:rz P pl)(d:∀c,mj P (B c)){c f:a0}{args:List AV}{H H':al}{v:AV}(h:Iy P ah pl B c f args H=some (v,H'))(K:AV->al->Prop)(a:K v H'):jg P false f args H K:=by
 unfold Iy at h
 split at h
 ·rename_i ar v' hx;simp only[ee,ei]at h;obtain⟨rfl,rfl⟩:=h;obtain⟨i,j⟩:=b.yz _ _ _ _ _ hx;exact .inr ⟨rfl,.inr (.inr (.inr ⟨ar,v',i,j,a⟩))⟩
 split at h
 ·split at h
  ·rename_i vs m
   split at h
   case h_2=>simp at h
   rename_i v' g;simp only[ee,ei]at h;obtain⟨rfl,rfl⟩:=h;exact .inl ⟨vs,v',OV m,zY b d g,a⟩
  ·exact .inr ⟨rfl,.inr (.inl ⟨H',v,uP b d h,a⟩)⟩
 ·exact .inr ⟨rfl,.inr (.inl ⟨H',v,uP b d h,a⟩)⟩
 ·split at h
  case h_2=>simp at h
  rename_i e k;simp only[ee,ei]at h;obtain⟨rfl,rfl⟩:=h;obtain⟨i,j⟩:=Gx (fun args H v H' g=>uP b d g) k;exact .inr ⟨rfl,.inr (.inr (.inl ⟨e,i,j,by rw[<-PM];exact a⟩))⟩
 ·split at h
  case h_2=>simp at h
  rename_i vs H1 l
  split at h
  case h_2=>simp at h
  rename_i v' g;simp only[ee,ei]at h;obtain⟨rfl,rfl⟩:=h;exact .inr ⟨rfl,.inl ⟨vs,H1,v',l,zY b d g,a⟩⟩
theorem aws(i:rz P pl)(j:∀c,mj P (B c)){c f:a0}{args:List AV}{H:al}{e:aZ}(h:Ix P ah pl B c f args H=some e)(K:aZ->Prop)(g:K e):jn P f args H K:=by
 unfold Ix at h
 split at h
 ·rename_i ar v' hx;simp only[ee]at h;subst h;obtain⟨b,d⟩:=i.yz _ _ _ _ _ hx;exact .inr (.inr (.inr ⟨ar,v',b,d,g⟩))
 split at h
 ·obtain⟨b,d⟩:=Gx (fun args H v H' a=>uP i j a) h;exact .inr (.inr (.inl ⟨e,b,d,g⟩))
 split at h
 ·rename_i vs m
  split at h
  case h_2=>simp at h
  rename_i v' a;simp only[ee]at h;subst h;exact .inl ⟨vs,v',OV m,zY i j a,g⟩
 ·split at h
  case h_2=>
   obtain⟨b,d⟩:=Gx (fun args H v H' a=>uP i j a) h;exact .inr (.inr (.inl ⟨e,b,d,g⟩))
  rename_i vs bs l
  split at h
  case h_2=>simp at h
  rename_i ar aM k
  split at h
  case h_2=>simp at h
  rename_i v' a;simp only[ee]at h;subst h;exact .inr (.inl ⟨vs,bs,ar,aM,v',l,k,zY i j a,g⟩)
theorem OE(o:rz P pl)(a:mj P B1){b:Nat}{H H':al}{args:List AV}{v:AV}(h:Ds P ah B1 b H args=some (H',v)):gz P b H args H' v:=by
 unfold Ds at h
 split at h
 case h_2=>simp at h
 rename_i L i;simp only[ao,ed,av]at h;obtain⟨⟨f,g⟩,h⟩:=h
 split at h
 case h_2=>simp at h
 rename_i R l
 split at h
 case h_2=>simp at h
 rename_i s H1 m
 split at h
 case h_2=>simp at h
 rename_i q j
 split at h
 case h_2=>simp at h
 rename_i aO
 split at h
 case h_2=>simp at h
 rename_i e t p n
 split at h
 case h_2=>simp at h
 rename_i r k;simp only[ee,ei]at h;obtain⟨rfl,rfl⟩:=h;obtain⟨w,c,a2⟩:=nw a m (PS _ l);obtain⟨x,u,d⟩:=nw a n c;refine T5 ah o.mix i (dX f) (by simpa only[av]using g) ?_;unfold C1;refine a2 _ ?_;simp only[Cp,j];refine⟨aO,d _ ?_⟩;simp only[xq,k];exact⟨trivial,.inl rfl⟩
theorem avY(g:rz P pl)(e:∀c,mj P (B c)){it:AV}{b:Nat}{H H':al}(h:IQ P ah pl B it b H=some H')(K:al->Prop)(f:K H'):kV P it b H K:=by
 unfold IQ at h
 split at h
 ·split at h
  case h_2=>simp at h
  rename_i v a d;simp only[ee]at h;subst h;exact⟨a,v,uP g e d,f⟩
 ·split at h
  case h_2=>simp at h
  rename_i v a d;simp only[ee]at h;subst h;exact⟨a,v,uP g e d,f⟩
 ·simp at h
theorem xn(a:rz P pl):∀n c,mj P (mE P ah pl n c)
 |0,_=>⟨fun _ _ _ _ _ h=>by simp[mE,xL]at h,fun _ _ _ _ h=>by simp[mE,xL]at h,fun _ _ _ _ _ h=>by simp[mE,xL]at h,fun _ _ _ _ h=>by simp[mE,xL]at h,fun _ _ _ _ h=>by simp[mE,xL]at h⟩
 |n+1,c=>⟨fun _ _ _ _ _ h=>awr a (xn a n) h,fun _ _ _ _ h=>aws a (xn a n) h,fun _ _ _ _ _ h=>OE a (xn a n c) h,fun _ _ _ _ h=>avY a (xn a n) h,fun _ _ _ _ h=>Zn (fun _ _ _ _ _ b=>OE a (xn a n c) b) h⟩
theorem reckon{f:a0}{vs:List PV}{v:PV}(n:Nat)(a:rz P pl)(h:tS P ah pl (mE P ah pl n) f vs=some v):aq P f vs v:=zY a (xn a n) h
end
section
variable{P:a1}{ah:a0->Bool}
theorem aq.dI{f:a0}{args c:List PV}{v v':PV}(h:aq P f args v)(d:bL c args)(g:Wk v v'):aq P f c v':=by
 rcases h with h|h
 ·refine .inl ⟨h.1,fun w ad a i j b=>(h.2 w ad a i j (bG.dI _ _ _ d b)).mono ?_⟩;rintro e w' ⟨cv,aG,k1,k2,k3,k4,k5,k6,k,k7⟩;exact⟨cv,aG,k1,k2,k3,k4,k5,k6,k,aE.dI _ _ _ g k7⟩
 ·refine .inr fun w ad a b=>?_;obtain⟨cv,k1,k2⟩:=h w ad a (bG.dI _ _ _ d b);exact⟨cv,k1,aE.dI _ _ _ g k2⟩
def DW(P:a1)(a:List a3)(v:PV)(e:bF)(s:St):Prop:=
 (match e with
  | .exit _=>False
  |_=>True)/\∃vs,gN P s a=some vs/\∃v',fP s.heap 9 (oneOf vs)=some v'/\Wk v' v
theorem atF{a:List a3}{v:PV}{s:St}:DW P a v .ret s=∃vs,gN P s a=some vs/\∃v',fP s.heap 9 (oneOf vs)=some v'/\Wk v' v:=by simp[DW]
theorem Yk{a:List a3}{v:PV}{s:St}:DW P a v .normal s=∃vs,gN P s a=some vs/\∃v',fP s.heap 9 (oneOf vs)=some v'/\Wk v' v:=by simp[DW]
theorem vL.dI{f:a0}{args a:List PV}{v v':PV}(h:vL P f args v)(i:bL a args)(j:Wk v v'):vL P f a v':=by
 refine⟨h.1,fun w ad b c d g=>(h.2 w ad b c d (bG.dI _ _ _ i g)).mono ?_⟩;rintro e w' ⟨cv,aG,k1,k2,k3,k4,k5,k6,k,k7⟩;exact⟨cv,aG,k1,k2,k3,k4,k5,k6,k,aE.dI _ _ _ j k7⟩
theorem N1{dst:Option Tmp}{h:Nat}{pos:String}{af:Array Edge}{g:Option (Nat×Bool)}{env:Env}{heap:al}{L:St->Prop}{f:a0}{fi ca:Array ay}(hf:ah f=false):
 dV P ah ⟨dst,.makeFunc (.func f) fi ca,h,pos,af,g⟩ L ⟨env,heap⟩=bu (vw f (fi.toList.map (ev env)) (ca.toList.map (ev env))) (fD dst ⟨env,heap⟩ L):=by
 simp only[dV,mV,gJ,hf,vw,ax,if_false]
 split
 ·rename_i c d;simp only[c,d,bu,true_and]
 ·rename_i c
  split
  ·rename_i a b d e;exact(c a b d e).elim
  ·simp only[bu,true_and]
theorem Nw{dst:Option Tmp}{h:Nat}{pos:String}{af:Array Edge}{g:Option (Nat×Bool)}{env:Env}{heap:al}{K:aZ->Prop}{f:a0}{fi ca:Array ay}(hf:ah f=false):
 dW P ah ⟨dst,.makeFunc (.func f) fi ca,h,pos,af,g⟩ ⟨env,heap⟩ K=bu (vw f (fi.toList.map (ev env)) (ca.toList.map (ev env))) K:=by
 simp only[dW,mV,gJ,hf,vw,ax,if_false]
 split
 ·rename_i c d;simp only[c,d,bu,true_and]
 ·rename_i c
  split
  ·rename_i a b d e;exact(c a b d e).elim
  ·simp only[bu,true_and]
section guards
variable{ops:Array Oper}{o:Oper}{r:List Oper}{K:St->Prop}{want t:Bool}{s:St}{i:Nat}{acc:List Touch}
theorem Ni:Du P ah ops o r K want s (.p (.bool t))=if t=want then dV P ah o (il P ah ops r K) s else il P ah ops r K ⟨put o.dst (.p (.aC [])) s.env,s.heap⟩:=(rfl)
theorem N5:Du P ah ops o r K want s (.p (.aC []))=il P ah ops r K ⟨put o.dst (.p (.aC [])) s.env,s.heap⟩:=(rfl)
theorem MG:Dg P ah ops o r i acc K want s (.p (.bool t))=if t=want then dW P ah o s (AP P ah ops r i acc K o.dst s)else iy P ah ops r (i+1) acc K ⟨put o.dst (.p (.aC [])) s.env,s.heap⟩:=(rfl)
theorem Nh:Dg P ah ops o r i acc K want s (.p (.aC []))=iy P ah ops r (i+1) acc K ⟨put o.dst (.p (.aC [])) s.env,s.heap⟩:=(rfl)
theorem Yi{l:List Oper}{j:Nat}{e:Env}:guardOf l.toArray j e=match(l[j]?).bind (·.dst)with
 |some d=>aQ e d
 |none=>.p (.aC []):=by simp only[guardOf,List.getElem?_toArray];cases l[j]?.bind (·.dst)<;>rfl
end guards
section calls
variable{f:a0}{H H1:al}{K:AV->al->Prop}{L:aZ->Prop}{v a b c d e a' b' c' d' e':PV}{dr:Bool}
theorem cw0(h:aq P f [] v)(hk:K (.p v) H):jg P dr f [] H K:=.inl ⟨[],v,rfl,h,hk⟩
theorem cw1(h:aq P f [a'] v)(hk:K (.p v) H)(b:Wk a a':=by first|exact Wk.refl _|simp[Wk,bL]):jg P dr f [.p a] H K:=.inl ⟨[a],v,rfl,h.dI (by simp only[bL];exact⟨b,trivial⟩) (Wk.refl _),hk⟩
theorem cw2(h:aq P f [a',b'] v)(hk:K (.p v) H)(c:Wk a a':=by first|exact Wk.refl _|simp[Wk,bL])(d:Wk b b':=by first|exact Wk.refl _|simp[Wk,bL]):jg P dr f [.p a,.p b] H K:=
 .inl ⟨[a,b],v,rfl,h.dI (by simp only[bL];exact⟨c,d,trivial⟩) (Wk.refl _),hk⟩
theorem cw3(h:aq P f [a',b',c'] v)(hk:K (.p v) H)(d:Wk a a':=by first|exact Wk.refl _|simp[Wk,bL])(e:Wk b b':=by first|exact Wk.refl _|simp[Wk,bL])(g:Wk c c':=by first|exact Wk.refl _|simp[Wk,bL]):jg P dr f [.p a,.p b,.p c] H K:=
 .inl ⟨[a,b,c],v,rfl,h.dI (by simp only[bL];exact⟨d,e,g,trivial⟩) (Wk.refl _),hk⟩
theorem cw4(h:aq P f [a',b',c',d'] v)(hk:K (.p v) H)(e:Wk a a':=by first|exact Wk.refl _|simp[Wk,bL])(g:Wk b b':=by first|exact Wk.refl _|simp[Wk,bL])(i:Wk c c':=by first|exact Wk.refl _|simp[Wk,bL])(j:Wk d d':=by first|exact Wk.refl _|simp[Wk,bL]):jg P dr f [.p a,.p b,.p c,.p d] H K:=
 .inl ⟨[a,b,c,d],v,rfl,h.dI (by simp only[bL];exact⟨e,g,i,j,trivial⟩) (Wk.refl _),hk⟩
theorem cw5(h:aq P f [a',b',c',d',e'] v)(hk:K (.p v) H)(g:Wk a a':=by first|exact Wk.refl _|simp[Wk,bL])(i:Wk b b':=by first|exact Wk.refl _|simp[Wk,bL])(j:Wk c c':=by first|exact Wk.refl _|simp[Wk,bL])(k:Wk d d':=by first|exact Wk.refl _|simp[Wk,bL])(l:Wk e e':=by first|exact Wk.refl _|simp[Wk,bL]):jg P dr f [.p a,.p b,.p c,.p d,.p e] H K:=
 .inl ⟨[a,b,c,d,e],v,rfl,h.dI (by simp only[bL];exact⟨g,i,j,k,l,trivial⟩) (Wk.refl _),hk⟩
theorem ce0(h:aq P f [] v)(hk:L {v:=.p v}):jn P f [] H L:=.inl ⟨[],v,rfl,h,hk⟩
theorem ce1(h:aq P f [a'] v)(hk:L {v:=.p v})(b:Wk a a':=by first|exact Wk.refl _|simp[Wk,bL]):jn P f [.p a] H L:=.inl ⟨[a],v,rfl,h.dI (by simp only[bL];exact⟨b,trivial⟩) (Wk.refl _),hk⟩
theorem ce2(h:aq P f [a',b'] v)(hk:L {v:=.p v})(c:Wk a a':=by first|exact Wk.refl _|simp[Wk,bL])(d:Wk b b':=by first|exact Wk.refl _|simp[Wk,bL]):jn P f [.p a,.p b] H L:=
 .inl ⟨[a,b],v,rfl,h.dI (by simp only[bL];exact⟨c,d,trivial⟩) (Wk.refl _),hk⟩
theorem ce3(h:aq P f [a',b',c'] v)(hk:L {v:=.p v})(d:Wk a a':=by first|exact Wk.refl _|simp[Wk,bL])(e:Wk b b':=by first|exact Wk.refl _|simp[Wk,bL])(g:Wk c c':=by first|exact Wk.refl _|simp[Wk,bL]):jn P f [.p a,.p b,.p c] H L:=
 .inl ⟨[a,b,c],v,rfl,h.dI (by simp only[bL];exact⟨d,e,g,trivial⟩) (Wk.refl _),hk⟩
theorem ce4(h:aq P f [a',b',c',d'] v)(hk:L {v:=.p v})(e:Wk a a':=by first|exact Wk.refl _|simp[Wk,bL])(g:Wk b b':=by first|exact Wk.refl _|simp[Wk,bL])(i:Wk c c':=by first|exact Wk.refl _|simp[Wk,bL])(j:Wk d d':=by first|exact Wk.refl _|simp[Wk,bL]):jn P f [.p a,.p b,.p c,.p d] H L:=
 .inl ⟨[a,b,c,d],v,rfl,h.dI (by simp only[bL];exact⟨e,g,i,j,trivial⟩) (Wk.refl _),hk⟩
theorem ce5(h:aq P f [a',b',c',d',e'] v)(hk:L {v:=.p v})(g:Wk a a':=by first|exact Wk.refl _|simp[Wk,bL])(i:Wk b b':=by first|exact Wk.refl _|simp[Wk,bL])(j:Wk c c':=by first|exact Wk.refl _|simp[Wk,bL])(k:Wk d d':=by first|exact Wk.refl _|simp[Wk,bL])(l:Wk e e':=by first|exact Wk.refl _|simp[Wk,bL]):jn P f [.p a,.p b,.p c,.p d,.p e] H L:=
 .inl ⟨[a,b,c,d,e],v,rfl,h.dI (by simp only[bL];exact⟨g,i,j,k,l,trivial⟩) (Wk.refl _),hk⟩
theorem cwp{args:List AV}{vs a:List PV}(h:aq P f a v)(c:pG H args=some (vs,H1))(hk:K (.p v) H1)(b:bL vs a:=by first|exact bL.refl _|simp[Wk,bL]):jg P false f args H K:=
 .inr ⟨rfl,.inl ⟨vs,H1,v,c,h.dI b (Wk.refl _),hk⟩⟩
theorem cep{args:List AV}{vs a:List PV}{bs:List Nat}{ar aM:List (Nat×Obj)}(h:aq P f a v)(c:rC H args=some (vs,bs))(hf:nA H bs=some (ar,aM))(hk:L {v:=.p v,ar,aM})(b:bL vs a:=by first|exact bL.refl _|simp[Wk,bL]):jn P f args H L:=
 .inr (.inl ⟨vs,bs,ar,aM,v,c,hf,h.dI b (Wk.refl _),hk⟩)
end calls
def KV(T:al)(a v:AV):Prop:=a=v\/Gh T a v
theorem Vx{T:al}{v:AV}:KV T v v=True:=by simp[KV]
theorem Vv{T:al}{b az ak off len:Nat}:KV T (.p .aI) (.sl b az ak off len)=(az=0/\off=0/\len=0/\∃k z,T[b]?=some (.arr k 0 z [])/\k.gr=true):=by simp[KV,Gh,ib]
theorem Vy{T:al}{u u':aT}{fs:List PV}{a:List AV}:KV T (.p (.st u fs)) (.st u' a)=(u=u'/\ni T fs a):=by simp[KV,Gh,ib]
def oK(T:al)(e:Env):Env->Prop
 |[]=>True
 |(x,v)::r=>KV T (aQ e x) v/\oK T e r
def KO(T:al)(o:Obj):Obj->Prop
 | .hole=>True
 | .box false v'=>match o with
  | .box false v=>KV T v v'
  |_=>False
 | .arr k az z es=>(o=.hole/\az=0/\es=[]/\k.gr=true)\/o=.arr k az z es
 |o'=>o=o'
def KN:Obj->Prop
 | .hole=>True
 | .arr k az _ es=>az=0/\es=[]/\k.gr=true
 |_=>False
def ji(T:al):al->al->Prop
 |_,[]=>True
 |[],o'::t=>KN o'/\ji T [] t
 |o::h,o'::t=>KO T o o'/\ji T h t
theorem oK.get{T:al}{e:Env}:∀{t:Env},oK T e t->∀x,aQ t x=aQ e x\/aQ t x=.p .undef\/Gh T (aQ e x) (aQ t x)
 |[],_,x=>.inr (.inl rfl)
 |(y,v)::t,h,x=>by
  simp only[oK]at h;simp only[aQ]
  split
  ·rename_i hx;subst hx;rcases h.1 with h|h
   ·exact .inl h.symm
   ·exact .inr (.inr h)
  ·exact oK.get h.2 x
theorem ji.get{T:al}:∀{h t:al},ji T h t->∀(b:Nat)(o:Obj),t[b]?=some o->
 o=.hole\/h[b]?=some o\/((h[b]?=none\/h[b]?=some .hole)/\∃k z,o=.arr k 0 z []/\k.gr=true)\/(∃v v',h[b]?=some (.box false v)/\o=.box false v'/\Gh T v v')
 |_,[],_,b,o,c=>by simp at c
 |[],o'::t,hk,b,o,c=>by
  simp only[ji]at hk;cases b with
  |zero=>
   simp at c;subst c;cases o'<;>have a:=hk.1<;>simp only[KN]at a
   ·exact .inl rfl
   ·obtain⟨rfl,rfl,d⟩:=a;exact .inr (.inr (.inl ⟨.inl rfl,_,_,rfl,d⟩))
  |succ b=>simpa using ji.get hk.2 b o (by simpa using c)
 |e::h,o'::t,hk,b,o,c=>by
  simp only[ji]at hk;cases b with
  |zero=>
   simp at c;subst c;have a:=hk.1;cases o' with
   |hole=>exact .inl rfl
   |dead=>simp only[KO]at a;subst a;exact .inr (.inl rfl)
   |map fz es=>simp only[KO]at a;subst a;exact .inr (.inl rfl)
   |dF ks vs=>simp only[KO]at a;subst a;exact .inr (.inl rfl)
   |dZ s p=>simp only[KO]at a;subst a;exact .inr (.inl rfl)
   |loop L=>simp only[KO]at a;subst a;exact .inr (.inl rfl)
   |arr k az z es=>
    simp only[KO]at a;rcases a with⟨rfl,rfl,rfl,d⟩|rfl
    ·exact .inr (.inr (.inl ⟨.inr rfl,_,_,rfl,d⟩))
    ·exact .inr (.inl rfl)
   |box fz v'=>
    cases fz with
    |true=>simp only[KO]at a;subst a;exact .inr (.inl rfl)
    |false=>
     simp only[KO]at a
     split at a
     ·rcases a with rfl|a
      ·exact .inr (.inl rfl)
      ·exact .inr (.inr (.inr ⟨_,_,rfl,rfl,a⟩))
     ·exact a.elim
  |succ b=>simpa using ji.get hk.2 b o (by simpa using c)
theorem dJ.og{N:Nat}{s t:St}(hn:t.heap.take N=s.heap.take N)(c:oK t.heap s.env t.env)(hh:ji t.heap s.heap t.heap)(d:jE t.heap t.env)(e:eA t.heap t.heap):dJ N s t:=by
 refine .inr ⟨⟨c.get,hh.get,d.get,e.get⟩,fun b a=>?_⟩;have:=congrArg (fun l:al=>l[b]?) hn;simpa[b3,a]using this
theorem RC{T:al}{o:Obj}:KO T o o=True:=by
 cases o with
 |box fz v=>cases fz<;>simp[KO,KV]
 |_=>simp[KO]
theorem Vt{T:al}{o:Obj}:KO T o .hole=True:=by simp[KO]
theorem Vs{T:al}{v v':AV}:KO T (.box false v) (.box false v')=KV T v v':=(rfl)
theorem Vu{T:al}{k:AK}{az z:Nat}{a:List AV}:KO T .hole (.arr k az z a)=(az=0/\a=[]/\k.gr=true):=by simp[KO]
theorem Vr:KN .hole=True:=(rfl)
theorem Vq{k:AK}{az z:Nat}{a:List AV}:KN (.arr k az z a)=(az=0/\a=[]/\k.gr=true):=(rfl)
theorem Vw{T:al}{x y:PV}:KV T (.p x) (.p y)=(x=y):=by
 have:Gh T (.p x) (.p y)↔x=y:=by cases x<;>simp[Gh,ib,eq_comm]
 simp[KV,this]
def yS{α:Type}(N:Nat)(mk:α->St)(ok:α->Prop)(m:α->Nat)(n:Nat)(s:St):Prop:=∃a',m a'<n/\ok a'/\dJ N s (mk a')
def vz{α:Type}(N:Nat)(mk:α->St)(ok:α->Prop)(m:α->Nat)(n:Nat)(Q:bF->St->Prop)(e:bF)(s:St):Prop:=
 match e with
 | .normal=>yS N mk ok m n s
 |e=>Q e s
section
variable{α:Type}{N:Nat}{mk:α->St}{ok:α->Prop}{m:α->Nat}{n:Nat}{Q:bF->St->Prop}{s s':St}{q:Cx}
theorem XV:vz N mk ok m n Q .normal s=yS N mk ok m n s:=(rfl)
theorem Zh{id:Nat}:vz N mk ok m n Q (.exit id) s=Q (.exit id) s:=(rfl)
theorem as8:vz N mk ok m n Q .ret s=Q .ret s:=(rfl)
theorem wl{b:Code}(mk:α->St)(ok:α->Prop)(m:α->Nat)(c:α)(k:ok c)(jk:∀a,ok a->dU P ah q b (vz q.2 mk ok m (m a) Q) (mk a))
 (hn:(mk c).heap.take q.2=s.heap.take q.2:=by simp)(i:oK (mk c).heap s.env (mk c).env:=by simp)(j:ji (mk c).heap s.heap (mk c).heap:=by simp)(l:jE (mk c).heap (mk c).env:=by simp)(o:eA (mk c).heap (mk c).heap:=by simp):
 dU P ah q (.loop b) Q s:=by
 simp only[dU];refine⟨fun n t=>∃a,ok a/\t=mk a/\n=m a,⟨m c,mk c,dJ.og hn i j l o,c,k,rfl,rfl⟩,?_⟩;rintro n t ⟨a,h,rfl,rfl⟩;have:vz q.2 mk ok m (m a) Q=xW q.2 (m a) (fun n t=>∃a,ok a/\t=mk a/\n=m a) Q:=by
  funext e s
  cases e with
  |normal=>
   simp only[vz,xW,yS,eq_iff_iff];constructor
   ·rintro⟨a',d,f,g⟩;exact⟨m a',mk a',d,g,a',f,rfl,rfl⟩
   ·rintro⟨_,_,d,g,a',f,rfl,rfl⟩;exact⟨a',d,f,g⟩
  |exit id=>rfl
  |ret=>rfl
 rw[<-this];exact jk a h
theorem rnd(a':α)(b:ok a')(a:m a'<n:=by omega)(hn:(mk a').heap.take N=s.heap.take N:=by simp)(c:oK (mk a').heap s.env (mk a').env:=by simp)(d:ji (mk a').heap s.heap (mk a').heap:=by simp)(e:jE (mk a').heap (mk a').env:=by simp)(f:eA (mk a').heap (mk a').heap:=by simp):
 yS N mk ok m n s:=⟨a',a,b,dJ.og hn c d e f⟩
end
theorem aU(n:Int)(h:-9223372036854775808<=n)(a:n<=9223372036854775807):IntKind.i64.wrap n=n:=IntWalk.i64_in n ⟨h,a⟩
theorem EM(a b:Int):(a<b/\¬b<=a)\/(¬a<b/\b<=a):=o_
theorem cE{i:Nat}(h:i<4611686018427387904):IntKind.i64.wrap ((i:Int)+1)=(i:Int)+1:=aU _ o_ o_
attribute [simp] Wk bL aL Obj.has Ni N5 MG Nh Yi N1 Nw vw XV Zh as8 oK ji Vx Vw Vv Vy RC Vt Vs Vu Vr Vq ni ib AK.gr jE eA aF Obj.refs
attribute [simp] atF Yk Wk.refl bL.refl
end
end Go.ag
namespace Go.ag
variable[Gl]
mutual
def fj:PV->Prop
 | .str s=>∀c∈s,c<256
 | .cM t=>fj t
 | .dw _ es| .seq es| .st _ es| .aC es=>oY es
 |_=>True
def oY:List PV->Prop
 |[]=>True
 |v::vs=>fj v/\oY vs
end
section
variable{P:a1}{w:a5}{ad:Nat->Prop}
theorem PH(bs:ByteArray):∀c∈bs.data.toList.map (·.toNat),c<256:=by
 intro c hc;simp only[bw]at hc;obtain⟨b,_,rfl⟩:=hc;exact UInt8.toNat_lt b
mutual
theorem bd.fj:∀(v:PV)(cs:List a4),bd P w ad v cs->fj v
 | .str s,cs,h=>by simp only[bd]at h;obtain⟨bs,_,rfl⟩:=h;simp only[ag.fj];exact PH bs
 | .cM t,cs,h=>by simp only[bd]at h;obtain⟨_,_,ts,a,_⟩:=h;simp only[ag.fj];exact bd.fj t ts a
 | .dw f b,cs,h=>by simp only[bd]at h;obtain⟨_,_,_,_,d,a,_⟩:=h;simp only[ag.fj];exact bt.fj _ b d a
 | .seq b,cs,h=>by
  simp only[bd]at h;simp only[ag.fj];rcases h with⟨rfl,_⟩|⟨_,_,_,_,d,a,_⟩
  ·trivial
  ·exact bt.fj _ b d a
 | .st u b,cs,h=>by simp only[bd]at h;obtain⟨l,d,_,a,_⟩:=h;simp only[ag.fj];exact bt.fj _ b d a
 | .aC b,cs,h=>by simp[bd]at h
 | .undef,_,_| .bool _,_,_| .int _ _,_,_| .eO,_,_| .aI,_,_| .gu,_,_| .jI,_,_| .iG,_,_| .fu _,_,_| .func _ _ _,_,_=>by simp[ag.fj]
theorem bt.fj:∀(l:List Nat)(b:List PV)(d:List (List a4)),bt P w ad l b d->oY b
 |_,[],_,_=>by simp[ag.oY]
 |[],_::_,_,h=>by simp[bt]at h
 |n::l,v::vs,d,h=>by
  simp only[bt]at h;obtain⟨c,cs,_,a,_,g⟩:=h;simp only[ag.oY];exact⟨bd.fj v c a,bt.fj l vs cs g⟩
theorem aE.fj:∀(v:PV)(x:a4),aE P w ad v x->fj v
 | .str s,cs,h=>by simp only[aE]at h;obtain⟨bs,_,rfl⟩:=h;simp only[ag.fj];exact PH bs
 | .cM t,cs,h=>by simp only[aE]at h;obtain⟨_,_,ts,a,_⟩:=h;simp only[ag.fj];exact bd.fj t ts a
 | .dw f b,cs,h=>by simp only[aE]at h;obtain⟨_,_,_,_,d,a,_⟩:=h;simp only[ag.fj];exact bt.fj _ b d a
 | .seq b,cs,h=>by
  simp only[aE]at h;simp only[ag.fj];rcases h with⟨rfl,_⟩|⟨_,_,_,_,d,a,_⟩
  ·trivial
  ·exact bt.fj _ b d a
 | .st u b,cs,h=>by simp only[aE]at h;obtain⟨l,d,_,a,_⟩:=h;simp only[ag.fj];exact bt.fj _ b d a
 | .aC b,cs,h=>by simp only[aE]at h;obtain⟨e,a,_⟩:=h;simp only[ag.fj];exact bG.fj b e a
 | .undef,_,_| .bool _,_,_| .int _ _,_,_| .eO,_,_| .aI,_,_| .gu,_,_| .jI,_,_| .iG,_,_| .fu _,_,_| .func _ _ _,_,_=>by simp[ag.fj]
theorem bG.fj:∀(b:List PV)(e:List a4),bG P w ad b e->oY b
 |[],_,_=>by simp[ag.oY]
 |v::vs,e,h=>by
  simp only[bG]at h;obtain⟨y,i,_,a,g⟩:=h;simp only[ag.oY];exact⟨aE.fj v y a,bG.fj vs i g⟩
end
theorem Wi{f:a0}{args:List PV}{v:PV}(h:oY args->aq P f args v):aq P f args v:=by
 by_cases hs:oY args
 ·exact h hs
 ·exact .inr fun w ad b a=>(hs (bG.fj _ _ a)).elim
end
end Go.ag
namespace Go.ag
variable[Gl]
@[reducible] def Tg{α:Type}(_:α)(β:Type):Type:=β
@[reducible] def Tg1{α:Type 1}(_:α)(β:Type):Type:=β
section
variable(P:a1)(ah:a0->Bool)
def fT(q:Cx)(c:Code)(Q:bF->St->Prop)(s:Tg (q,c,Q) St):Prop:=dU P ah q c Q s
def tQ(a:Array Oper)(l:List Oper)(K:St->Prop)(s:Tg (a,l,K) St):Prop:=il P ah a l K s
def rI(b:Array Oper)(l:List Oper)(i:Nat)(a:List Touch)(K:St->Prop)(s:Tg (b,l,i,a,K) St):Prop:=iy P ah b l i a K s
def Ez(K:St->Prop)(Q:bF->St->Prop)(e:Tg (K,Q) bF)(s:Tg (K,Q) St):Prop:=yK K Q e s
def vi(id:Nat)(Q:bF->St->Prop)(e:Tg (id,Q) bF)(s:Tg (id,Q) St):Prop:=ry id Q e s
def TF(a b:St->Prop)(s:St)(v:Tg (a,b,s) AV):Prop:=yd v a b s
def DG(b:Array Oper)(r:List Oper)(i:Nat)(a:List Touch)(K:St->Prop)(dst:Option Tmp)(s:St)(e:Tg (b,r,i,a,K,dst,s) aZ):Prop:=AP P ah b r i a K dst s e
def fL(dst:Option Tmp)(s:St)(K:St->Prop)(e:Tg (dst,s,K) aZ):Prop:=fD dst s K e
def US(dst:Option Tmp)(s:St)(K:St->Prop)(v:Tg (dst,s,K) AV)(H:Tg (dst,s,K) al):Prop:=Ev dst s K v H
def H8(a:Array Oper)(o:Oper)(r:List Oper)(K:St->Prop)(b:Bool)(s:St)(g:Tg (a,o,r,K,b,s) AV):Prop:=Du P ah a o r K b s g
def Hn(b:Array Oper)(o:Oper)(r:List Oper)(i:Nat)(a:List Touch)(K:St->Prop)(c:Bool)(s:St)(g:Tg (b,o,r,i,a,K,c,s) AV):Prop:=Dg P ah b o r i a K c s g
def fo(o:Oper)(K:St->Prop)(s:St)(_:Tg (o,K,s) Unit):Prop:=dV P ah o K s
def fh(o:Oper)(s:St)(K:aZ->Prop)(_:Tg (o,K,s) Unit):Prop:=dW P ah o s K
def cU(K:aZ->Prop)(r:Tg K fF):Prop:=bu r K
def D1(H:al)(K:AV->al->Prop)(f:Tg (H,K) AV)(args:Tg (H,K) (List AV)):Prop:=vu P f args H K
def AU(H:al)(K:aZ->Prop)(f:Tg (H,K) AV)(args:Tg (H,K) (List AV)):Prop:=vg P f args H K
def mK(d:Bool)(f:a0)(K:AV->al->Prop)(args:Tg K (List AV))(H:Tg K al):Prop:=jg P d f args H K
def oX(f:a0)(K:aZ->Prop)(args:Tg K (List AV))(H:Tg K al):Prop:=jn P f args H K
def vJ(R:AV->PV->Prop):List AV->List PV->Prop
 |[],vs=>vs=[]
 |x::xs,vs=>match vs with
  |v::vs=>R x v/\vJ R xs vs
  |[]=>False
def iq(H:al):Nat->AV->PV->Prop
 |0=>fun x v=>match x with
  | .p a=>Wk a v
  |_=>False
 |n+1=>fun x v=>match x with
  | .p a=>Wk a v
  | .sl b az z off len=>match v with
   | .seq fs=>match H[b]? with
    |some (.arr _ e h es)=>az=e/\z=h/\off+len<=es.length/\vJ (iq H n) ((es.drop off).take len) fs
    |_=>False
   |_=>False
  | .st u xs=>match v with
   | .st u' vs=>u=u'/\vJ (iq H n) xs vs
   |_=>False
  | .aC xs=>match v with
   | .aC vs=>vJ (iq H n) xs vs
   |_=>False
  | .ptr b path=>match v with
   | .cM t=>match H[b]? with
    |some (.box _ y)=>match fX y path with
     |some s=>iq H n s t
     |none=>False
    |_=>False
   |_=>False
  | .map b=>match v with
   | .fu es=>match H[b]? with
    |some (.map _ c)=>c=es
    |_=>False
   |_=>False
  | .func f xs g=>match v with
   | .func d vs us=>f=d/\vJ (iq H n) xs vs/\vJ (iq H n) g us
   |_=>False
  |_=>False
def pK(H:al)(n:Nat):List AV->List PV->Prop:=vJ (iq H n)
def vN(a:List a3)(v:PV)(e:Tg (a,v) bF)(s:Tg (a,v) St):Prop:=
 (match e with
  | .exit _=>False
  |_=>True)/\∃vs,gN P s a=some vs/\iq (St.heap s) 9 (oneOf vs) v
def AG(a:Array Oper)(l:Tg a (List Touch)):Bool:=jL a l
def aQl(a:Array Oper)(i j:Tg a Nat):Bool:=reach a a.size i j
end
section
variable{P:a1}{ah:a0->Bool}{q:Cx}
theorem aRH{Q:bF->St->Prop}{s:St}:fT P ah q .skip Q s=Q .normal s:=RX
theorem auS{l:Nat}{Q:bF->St->Prop}{s:St}:fT P ah q (.label l) Q s=Q .normal s:=QR
theorem aRF{id:Nat}{Q:bF->St->Prop}{s:St}:fT P ah q (.exit id) Q s=Q (.exit id) s:=RY
theorem aRG{Q:bF->St->Prop}{s:St}:fT P ah q .ret Q s=Q .ret s:=Vj
theorem auQ{b:Code}{Q:bF->St->Prop}{s:St}:fT P ah q (.scope b) Q s=fT P ah q b Q s:=QP
theorem aRE{id:Nat}{l:List Oper}{Q:bF->St->Prop}{s:St}:fT P ah q (.region id l.toArray true) Q s=rI P ah l.toArray l 0 [] (Q .normal) s:=RZ
theorem auR{id:Nat}{l:List Oper}{Q:bF->St->Prop}{s:St}:fT P ah q (.region id l.toArray false) Q s=tQ P ah l.toArray l (Q .normal) s:=QQ
theorem aX{a b:Code}{Q:bF->St->Prop}{s:St}:fT P ah q (.seq a b) Q s=fT P ah q a (Ez (fT P ah q b Q) Q) s:=Vk
theorem PD{id:Nat}{b:Code}{Q:bF->St->Prop}{s:St}:fT P ah q (.block id b) Q s=fT P ah q b (vi id Q) s:=QS
theorem aRD{c:ay}{a b:Code}{Q:bF->St->Prop}{s:St}:fT P ah q (.cond c a b) Q s=TF (fT P ah q a Q) (fT P ah q b Q) s (ev s.env c):=R0
theorem XY{K:St->Prop}{Q:bF->St->Prop}{s:St}:Ez K Q .normal s=K s:=M9
theorem ZD{id:Nat}{K:St->Prop}{Q:bF->St->Prop}{s:St}:Ez K Q (.exit id) s=Q (.exit id) s:=OC
theorem ZJ{K:St->Prop}{Q:bF->St->Prop}{s:St}:Ez K Q .ret s=Q .ret s:=Px
theorem Yw{t:Bool}{a b:St->Prop}{s:St}:TF a b s (.p (.bool t))=if t then a s else b s:=Ny
theorem at5{b:Array Oper}{r:List Oper}{i:Nat}{a:List Touch}{K:St->Prop}{dst:Option Tmp}{env:Env}{heap:al}{v:AV}{ar aM:List (Nat×Obj)}{aY:List Obj}:DG P ah b r i a K dst ⟨env,heap⟩ ⟨v,ar,aM,aY⟩=rI P ah b r (i+1) (ij i heap.length ⟨v,ar,aM,aY⟩ a) K ⟨put dst v env,bA heap aM++aY⟩:=P3
theorem awL{dst:Option Tmp}{env:Env}{heap:al}{K:St->Prop}{v:AV}{ar aM:List (Nat×Obj)}{aY:List Obj}:fL dst ⟨env,heap⟩ K ⟨v,ar,aM,aY⟩=K ⟨put dst v env,bA heap aM++aY⟩:=Ry
theorem avl{dst:Option Tmp}{env:Env}{heap H:al}{K:St->Prop}{v:AV}:US dst ⟨env,heap⟩ K v H=K ⟨put dst v env,H⟩:=Rd
theorem aRI{b:Array Oper}{i:Nat}{a:List Touch}{K:St->Prop}{s:St}:rI P ah b [] i a K s=(AG b a=true/\K s):=RW
theorem auP{b:Array Oper}{i c:Nat}{pos:String}{a:List Touch}{K:St->Prop}{s:St}{dst:Option Tmp}{op:Op}{af:Array Edge}{r:List Oper}:rI P ah b ({dst,op,type:=c,pos,after:=af,guard:=none}::r) i a K s=fh P ah {dst,op,type:=c,pos,after:=af,guard:=none} s (DG P ah b r i a K dst s) ():=QO
theorem Z6{a:Array Oper}{i d j:Nat}{b:Bool}{pos:String}{c:List Touch}{K:St->Prop}{s:St}{dst:Option Tmp}{op:Op}{af:Array Edge}{r:List Oper}:rI P ah a ({dst,op,type:=d,pos,after:=af,guard:=some (j,b)}::r) i c K s=Hn P ah a {dst,op,type:=d,pos,after:=af,guard:=some (j,b)} r i c K b s (guardOf a j s.env):=PC
theorem aRO{a:Array Oper}{K:St->Prop}{s:St}:tQ P ah a [] K s=K s:=RU
theorem auO{a:Array Oper}{b:Nat}{pos:String}{K:St->Prop}{s:St}{dst:Option Tmp}{op:Op}{af:Array Edge}{r:List Oper}:tQ P ah a ({dst,op,type:=b,pos,after:=af,guard:=none}::r) K s=fo P ah {dst,op,type:=b,pos,after:=af,guard:=none} (tQ P ah a r K) s ():=QM
theorem Z5{a:Array Oper}{c j:Nat}{b:Bool}{pos:String}{K:St->Prop}{s:St}{dst:Option Tmp}{op:Op}{af:Array Edge}{r:List Oper}:tQ P ah a ({dst,op,type:=c,pos,after:=af,guard:=some (j,b)}::r) K s=H8 P ah a {dst,op,type:=c,pos,after:=af,guard:=some (j,b)} r K b s (guardOf a j s.env):=PB
section ops
variable{dst:Option Tmp}{ty:Nat}{pos:String}{af:Array Edge}{g:Option (Nat×Bool)}{env:Env}{heap:al}{K:aZ->Prop}{L:St->Prop}
theorem aFM{x:ay}:fh P ah ⟨dst,.move x,ty,pos,af,g⟩ ⟨env,heap⟩ K ()=K {v:=ev env x}:=S2
theorem atX{x:ay}:fh P ah ⟨dst,.assign x,ty,pos,af,g⟩ ⟨env,heap⟩ K ()=K {v:=ev env x}:=PY
theorem aFP{c a b:ay}:fh P ah ⟨dst,.pick c a b,ty,pos,af,g⟩ ⟨env,heap⟩ K ()=cU K (vD (ev env c) (ev env a) (ev env b)):=S0
theorem awj{T:aT}:fh P ah ⟨dst,.alloc T,ty,pos,af,g⟩ ⟨env,heap⟩ K ()=cU K (vk P T heap.length):=Ro
theorem aFB{T:aT}{x:ay}:fh P ah ⟨dst,.box T x,ty,pos,af,g⟩ ⟨env,heap⟩ K ()=cU K (yu P T heap.length (ev env x)):=TK
theorem awi{T:aT}{parts:Array (Nat×ay)}:fh P ah ⟨dst,.build T parts,ty,pos,af,g⟩ ⟨env,heap⟩ K ()=cU K (vh P T (parts.toList.map fun(i,x)=>(i,ev env x))):=Rn
theorem Xw{T:aT}{n:Nat}{parts:Array (Nat×ay)}:fh P ah ⟨dst,.buildSlice T n parts,ty,pos,af,g⟩ ⟨env,heap⟩ K ()=cU K (uv P T n (parts.toList.map fun(i,x)=>(i,ev env x)) heap.length):=MI
theorem aFJ{T:aT}{a:ay}:fh P ah ⟨dst,.load T a,ty,pos,af,g⟩ ⟨env,heap⟩ K ()=cU K (tu P T heap (ev env a)):=SD
theorem awd{T:aT}{a x:ay}:fh P ah ⟨dst,.store T a x,ty,pos,af,g⟩ ⟨env,heap⟩ K ()=cU K (sZ P T heap (ev env a) (ev env x)):=Rk
theorem aFz{op:a7}{T a:aT}{x y:ay}:fh P ah ⟨dst,.binOp op T x y a,ty,pos,af,g⟩ ⟨env,heap⟩ K ()=cU K (lh P op T (pC y) heap (ev env x) (ev env y)):=TJ
theorem aFR{op:UnOp}{T:aT}{x:ay}:fh P ah ⟨dst,.unOp op T x,ty,pos,af,g⟩ ⟨env,heap⟩ K ()=cU K (wE op (ev env x)):=TO
theorem aFG{S D:aT}{x:ay}:fh P ah ⟨dst,.convert S D x,ty,pos,af,g⟩ ⟨env,heap⟩ K ()=cU K (vt P S D heap (ev env x)):=SF
theorem YZ{t:ay}{i:Nat}:fh P ah ⟨dst,.extract t i,ty,pos,af,g⟩ ⟨env,heap⟩ K ()=cU K (uL (ev env t) i):=O5
theorem Yr{T:aT}{a:ay}{f:Nat}:fh P ah ⟨dst,.fieldAddr T a f,ty,pos,af,g⟩ ⟨env,heap⟩ K ()=cU K (sD P T (ev env a) f):=Nb
theorem Yq{T:aT}{x i:ay}:fh P ah ⟨dst,.indexAddr T x i,ty,pos,af,g⟩ ⟨env,heap⟩ K ()=cU K (sC P T heap (ev env x) (ev env i)):=Na
theorem awg{T:aT}{x i:ay}:fh P ah ⟨dst,.index T x i,ty,pos,af,g⟩ ⟨env,heap⟩ K ()=cU K (vo P T (ev env x) (ev env i)):=Rm
theorem aFI{x:ay}{a:Array aT}:fh P ah ⟨dst,.call {callee:=.builtin .len,args:=#[x],argTypes:=a},ty,pos,af,g⟩ ⟨env,heap⟩ K ()=cU K (wo P (a.getD 0 0) a.size heap (ev env x)):=TL
theorem aFE{f:ay}{args:List ay}{a:Array aT}:fh P ah ⟨dst,.call {callee:=.value f,args:=args.toArray,argTypes:=a},ty,pos,af,g⟩ ⟨env,heap⟩ K ()=AU P heap K (ev env f) (args.map (ev env)):=SG
theorem aPY{x:ay}:fo P ah ⟨dst,.move x,ty,pos,af,g⟩ L ⟨env,heap⟩ ()=fL dst ⟨env,heap⟩ L {v:=ev env x}:=Sk
theorem asG{x:ay}:fo P ah ⟨dst,.assign x,ty,pos,af,g⟩ L ⟨env,heap⟩ ()=fL dst ⟨env,heap⟩ L {v:=ev env x}:=Pf
theorem aP1{c a b:ay}:fo P ah ⟨dst,.pick c a b,ty,pos,af,g⟩ L ⟨env,heap⟩ ()=cU (fL dst ⟨env,heap⟩ L) (vD (ev env c) (ev env a) (ev env b)):=Si
theorem avw{T:aT}:fo P ah ⟨dst,.alloc T,ty,pos,af,g⟩ L ⟨env,heap⟩ ()=cU (fL dst ⟨env,heap⟩ L) (vk P T heap.length):=Q1
theorem aPL{T:aT}{x:ay}:fo P ah ⟨dst,.box T x,ty,pos,af,g⟩ L ⟨env,heap⟩ ()=cU (fL dst ⟨env,heap⟩ L) (yu P T heap.length (ev env x)):=UJ
theorem avu{T:aT}{parts:Array (Nat×ay)}:fo P ah ⟨dst,.build T parts,ty,pos,af,g⟩ L ⟨env,heap⟩ ()=cU (fL dst ⟨env,heap⟩ L) (vh P T (parts.toList.map fun(i,x)=>(i,ev env x))):=Q0
theorem XE{T:aT}{n:Nat}{parts:Array (Nat×ay)}:fo P ah ⟨dst,.buildSlice T n parts,ty,pos,af,g⟩ L ⟨env,heap⟩ ()=cU (fL dst ⟨env,heap⟩ L) (uv P T n (parts.toList.map fun(i,x)=>(i,ev env x)) heap.length):=MD
theorem aPS{T:aT}{a:ay}:fo P ah ⟨dst,.load T a,ty,pos,af,g⟩ L ⟨env,heap⟩ ()=cU (fL dst ⟨env,heap⟩ L) (tu P T heap (ev env a)):=Sl
theorem avo{T:aT}{a x:ay}:fo P ah ⟨dst,.store T a x,ty,pos,af,g⟩ L ⟨env,heap⟩ ()=cU (fL dst ⟨env,heap⟩ L) (sZ P T heap (ev env a) (ev env x)):=Rf
theorem aPK{op:a7}{T a:aT}{x y:ay}:fo P ah ⟨dst,.binOp op T x y a,ty,pos,af,g⟩ L ⟨env,heap⟩ ()=cU (fL dst ⟨env,heap⟩ L) (lh P op T (pC y) heap (ev env x) (ev env y)):=UI
theorem aP3{op:UnOp}{T:aT}{x:ay}:fo P ah ⟨dst,.unOp op T x,ty,pos,af,g⟩ L ⟨env,heap⟩ ()=cU (fL dst ⟨env,heap⟩ L) (wE op (ev env x)):=UN
theorem aPN{S D:aT}{x:ay}:fo P ah ⟨dst,.convert S D x,ty,pos,af,g⟩ L ⟨env,heap⟩ ()=cU (fL dst ⟨env,heap⟩ L) (vt P S D heap (ev env x)):=Sn
theorem Y9{t:ay}{i:Nat}:fo P ah ⟨dst,.extract t i,ty,pos,af,g⟩ L ⟨env,heap⟩ ()=cU (fL dst ⟨env,heap⟩ L) (uL (ev env t) i):=Of
theorem XO{T:aT}{a:ay}{f:Nat}:fo P ah ⟨dst,.fieldAddr T a f,ty,pos,af,g⟩ L ⟨env,heap⟩ ()=cU (fL dst ⟨env,heap⟩ L) (sD P T (ev env a) f):=MZ
theorem X4{T:aT}{x i:ay}:fo P ah ⟨dst,.indexAddr T x i,ty,pos,af,g⟩ L ⟨env,heap⟩ ()=cU (fL dst ⟨env,heap⟩ L) (sC P T heap (ev env x) (ev env i)):=MY
theorem avr{T:aT}{x i:ay}:fo P ah ⟨dst,.index T x i,ty,pos,af,g⟩ L ⟨env,heap⟩ ()=cU (fL dst ⟨env,heap⟩ L) (vo P T (ev env x) (ev env i)):=QZ
theorem aPQ{x:ay}{a:Array aT}:fo P ah ⟨dst,.call {callee:=.builtin .len,args:=#[x],argTypes:=a},ty,pos,af,g⟩ L ⟨env,heap⟩ ()=cU (fL dst ⟨env,heap⟩ L) (wo P (a.getD 0 0) a.size heap (ev env x)):=UK
theorem aPM{f:ay}{args:List ay}{a:Array aT}:fo P ah ⟨dst,.call {callee:=.value f,args:=args.toArray,argTypes:=a},ty,pos,af,g⟩ L ⟨env,heap⟩ ()=D1 P heap (US dst ⟨env,heap⟩ L) (ev env f) (args.map (ev env)):=So
theorem awe{T:aT}{x:ay}{lo hi:Option ay}:fh P ah ⟨dst,.slice T x lo hi none,ty,pos,af,g⟩ ⟨env,heap⟩ K ()=cU K (s9 P T heap (ev env x) (lo.map (ev env)) (hi.map (ev env))):=Rl
theorem avp{T:aT}{x:ay}{lo hi:Option ay}:fo P ah ⟨dst,.slice T x lo hi none,ty,pos,af,g⟩ L ⟨env,heap⟩ ()=cU (fL dst ⟨env,heap⟩ L) (s9 P T heap (ev env x) (lo.map (ev env)) (hi.map (ev env))):=QX
theorem atT{T:aT}{x i:ay}{ok:Bool}:fh P ah ⟨dst,.lookup T x i ok,ty,pos,af,g⟩ ⟨env,heap⟩ K ()=cU K (vA P T heap (ev env x) (ev env i) ok):=PW
theorem asC{T:aT}{x i:ay}{ok:Bool}:fo P ah ⟨dst,.lookup T x i ok,ty,pos,af,g⟩ L ⟨env,heap⟩ ()=cU (fL dst ⟨env,heap⟩ L) (vA P T heap (ev env x) (ev env i) ok):=Pc
theorem Yo{T:aT}{m k x:ay}:fh P ah ⟨dst,.mapUpdate T m k x,ty,pos,af,g⟩ ⟨env,heap⟩ K ()=cU K (pB P T heap (ev env m) (ev env k) (ev env x)):=Nr
theorem X1{T:aT}{m k x:ay}:fo P ah ⟨dst,.mapUpdate T m k x,ty,pos,af,g⟩ L ⟨env,heap⟩ ()=cU (fL dst ⟨env,heap⟩ L) (pB P T heap (ev env m) (ev env k) (ev env x)):=MW
theorem atU{T:aT}{m k x:ay}:fh P ah ⟨dst,.insert T m k x,ty,pos,af,g⟩ ⟨env,heap⟩ K ()=cU K (pB P T heap (ev env m) (ev env k) (ev env x)):=PX
theorem asD{T:aT}{m k x:ay}:fo P ah ⟨dst,.insert T m k x,ty,pos,af,g⟩ L ⟨env,heap⟩ ()=cU (fL dst ⟨env,heap⟩ L) (pB P T heap (ev env m) (ev env k) (ev env x)):=Pe
theorem awf{T:aT}{x:ay}:fh P ah ⟨dst,.range T x,ty,pos,af,g⟩ ⟨env,heap⟩ K ()=cU K (u7 P T heap.length (ev env x)):=Le
theorem avq{T:aT}{x:ay}:fo P ah ⟨dst,.range T x,ty,pos,af,g⟩ L ⟨env,heap⟩ ()=cU (fL dst ⟨env,heap⟩ L) (u7 P T heap.length (ev env x)):=QY
theorem aFN{it:ay}:fh P ah ⟨dst,.next it true,ty,pos,af,g⟩ ⟨env,heap⟩ K ()=cU K (vF heap (ev env it)):=S1
theorem aPZ{it:ay}:fo P ah ⟨dst,.next it true,ty,pos,af,g⟩ L ⟨env,heap⟩ ()=cU (fL dst ⟨env,heap⟩ L) (vF heap (ev env it)):=Sj
theorem Yp{T:aT}{l c:ay}:fh P ah ⟨dst,.makeSlice T l c,ty,pos,af,g⟩ ⟨env,heap⟩ K ()=cU K (vH P T heap.length (ev env l) (ev env c)):=Ns
theorem X3{T:aT}{l c:ay}:fo P ah ⟨dst,.makeSlice T l c,ty,pos,af,g⟩ L ⟨env,heap⟩ ()=cU (fL dst ⟨env,heap⟩ L) (vH P T heap.length (ev env l) (ev env c)):=MX
theorem Yu{x:ay}:fh P ah ⟨dst,.nilCheck x,ty,pos,af,g⟩ ⟨env,heap⟩ K ()=cU K (uW (ev env x)):=Nv
theorem YO{x:ay}:fo P ah ⟨dst,.nilCheck x,ty,pos,af,g⟩ L ⟨env,heap⟩ ()=cU (fL dst ⟨env,heap⟩ L) (uW (ev env x)):=NZ
theorem aFL{args:Array ay}{a:Array aT}:fh P ah ⟨dst,.call {callee:=.builtin .min,args,argTypes:=a},ty,pos,af,g⟩ ⟨env,heap⟩ K ()=cU K (mT false (args.toList.map (ev env))):=TN
theorem aPX{args:Array ay}{a:Array aT}:fo P ah ⟨dst,.call {callee:=.builtin .min,args,argTypes:=a},ty,pos,af,g⟩ L ⟨env,heap⟩ ()=cU (fL dst ⟨env,heap⟩ L) (mT false (args.toList.map (ev env))):=UM
theorem aFK{args:Array ay}{a:Array aT}:fh P ah ⟨dst,.call {callee:=.builtin .max,args,argTypes:=a},ty,pos,af,g⟩ ⟨env,heap⟩ K ()=cU K (mT true (args.toList.map (ev env))):=TM
theorem aPW{args:Array ay}{a:Array aT}:fo P ah ⟨dst,.call {callee:=.builtin .max,args,argTypes:=a},ty,pos,af,g⟩ L ⟨env,heap⟩ ()=cU (fL dst ⟨env,heap⟩ L) (mT true (args.toList.map (ev env))):=UL
theorem YY{T:aT}:fh P ah ⟨dst,.makeMap T none,ty,pos,af,g⟩ ⟨env,heap⟩ K ()=K {v:=.map heap.length,aY:=[.map false []]}:=O4
theorem Y8{T:aT}:fo P ah ⟨dst,.makeMap T none,ty,pos,af,g⟩ L ⟨env,heap⟩ ()=fL dst ⟨env,heap⟩ L {v:=.map heap.length,aY:=[.map false []]}:=OQ
theorem atY{s x:ay}{T X:aT}:fh P ah ⟨dst,.call {callee:=.builtin .append,args:=#[s,x],argTypes:=#[T,X]},ty,pos,af,g⟩ ⟨env,heap⟩ K ()=cU K (sY P T X heap (ev env s) (ev env x)):=PZ
theorem asH{s x:ay}{T X:aT}:fo P ah ⟨dst,.call {callee:=.builtin .append,args:=#[s,x],argTypes:=#[T,X]},ty,pos,af,g⟩ L ⟨env,heap⟩ ()=cU (fL dst ⟨env,heap⟩ L) (sY P T X heap (ev env s) (ev env x)):=Pg
theorem aFH{s x:ay}{T X:aT}:fh P ah ⟨dst,.call {callee:=.builtin .copy,args:=#[s,x],argTypes:=#[T,X]},ty,pos,af,g⟩ ⟨env,heap⟩ K ()=cU K (copyV P T heap (ev env s) (ev env x)):=SE
theorem aPO{s x:ay}{T X:aT}:fo P ah ⟨dst,.call {callee:=.builtin .copy,args:=#[s,x],argTypes:=#[T,X]},ty,pos,af,g⟩ L ⟨env,heap⟩ ()=cU (fL dst ⟨env,heap⟩ L) (copyV P T heap (ev env s) (ev env x)):=Sm
theorem aFm{f:a0}{fi ca:List AV}{args:List AV}{M:AV->al->Prop}:D1 P heap M (.func f fi ca) args=mK P false f M (fi++args++ca) heap:=TG
theorem aFp{f:a0}{fi ca:List AV}{args:List AV}:AU P heap K (.func f fi ca) args=oX P f K (fi++args++ca) heap:=SH
theorem aFo{f:a0}{fi ca:List PV}{args:List AV}{M:AV->al->Prop}:D1 P heap M (.p (.func f fi ca)) args=mK P false f M (fi.map .p++args++ca.map .p) heap:=TH
theorem aFq{f:a0}{fi ca:List PV}{args:List AV}:AU P heap K (.p (.func f fi ca)) args=oX P f K (fi.map .p++args++ca.map .p) heap:=TI
end ops
section guards
variable{ops:Array Oper}{o:Oper}{r:List Oper}{K:St->Prop}{want t:Bool}{s:St}{i:Nat}{acc:List Touch}
theorem Yh:H8 P ah ops o r K want s (.p (.bool t))=if t=want then fo P ah o (tQ P ah ops r K) s ()else tQ P ah ops r K ⟨put o.dst (.p (.aC [])) s.env,s.heap⟩:=Ni
theorem YK:H8 P ah ops o r K want s (.p (.aC []))=tQ P ah ops r K ⟨put o.dst (.p (.aC [])) s.env,s.heap⟩:=N5
theorem XI:Hn P ah ops o r i acc K want s (.p (.bool t))=if t=want then fh P ah o s (DG P ah ops r i acc K o.dst s) ()else rI P ah ops r (i+1) acc K ⟨put o.dst (.p (.aC [])) s.env,s.heap⟩:=MG
theorem Yg:Hn P ah ops o r i acc K want s (.p (.aC []))=rI P ah ops r (i+1) acc K ⟨put o.dst (.p (.aC [])) s.env,s.heap⟩:=Nh
end guards
theorem XA{id:Nat}{Q:bF->St->Prop}{s:St}:vi id Q .normal s=Q .normal s:=(rfl)
theorem YV{id i:Nat}{Q:bF->St->Prop}{s:St}:vi id Q (.exit i) s=if i=id then Q .normal s else Q (.exit i) s:=(rfl)
theorem ZZ{id:Nat}{Q:bF->St->Prop}{s:St}:vi id Q .ret s=Q .ret s:=(rfl)
section makeFunc
variable{dst:Option Tmp}{ty:Nat}{pos:String}{af:Array Edge}{g:Option (Nat×Bool)}{env:Env}{heap:al}{L:St->Prop}{K:aZ->Prop}{f:a0}{fi ca:Array ay}
theorem YP(hf:ah f=false):fo P ah ⟨dst,.makeFunc (.func f) fi ca,ty,pos,af,g⟩ L ⟨env,heap⟩ ()=cU (fL dst ⟨env,heap⟩ L) (vw f (fi.toList.map (ev env)) (ca.toList.map (ev env))):=N1 hf
theorem Yv(hf:ah f=false):fh P ah ⟨dst,.makeFunc (.func f) fi ca,ty,pos,af,g⟩ ⟨env,heap⟩ K ()=cU K (vw f (fi.toList.map (ev env)) (ca.toList.map (ev env))):=Nw hf
end makeFunc
theorem ZL{p:Prop}{e:aZ}{K:aZ->Prop}:cU K (some (p,e))=(p/\K e):=(rfl)
theorem ZM{K:aZ->Prop}:cU K none=False:=(rfl)
theorem Zt{a:Array Oper}:AG a []=true:=(rfl)
theorem Ye{a:Array Oper}{t:Touch}{r:List Touch}:AG a (t::r)=(r.all (fun u=>!kZ u t||aQl a u.i t.i)&&AG a r):=(rfl)
theorem Wt{a:List a3}{v:PV}{s:St}:vN P a v .ret s=∃vs,gN P s a=some vs/\iq s.heap 9 (oneOf vs) v:=by simp[vN]
theorem Yl{a:List a3}{v:PV}{s:St}:vN P a v .normal s=∃vs,gN P s a=some vs/\iq s.heap 9 (oneOf vs) v:=by simp[vN]
section pur
variable{H:al}
theorem BD{n:Nat}{a v:PV}:iq H n (.p a) v=Wk a v:=by cases n<;>rfl
theorem RS{n b az z off len:Nat}{fs:List PV}:iq H (n+1) (.sl b az z off len) (.seq fs)=match H[b]? with
  |some (.arr _ a c es)=>az=a/\z=c/\off+len<=es.length/\pK H n ((es.drop off).take len) fs
  |_=>False:=(rfl)
theorem aQg{n:Nat}{u u':aT}{a:List AV}{vs:List PV}:iq H (n+1) (.st u a) (.st u' vs)=(u=u'/\pK H n a vs):=(rfl)
theorem aQh{n:Nat}{a:List AV}{vs:List PV}:iq H (n+1) (.aC a) (.aC vs)=pK H n a vs:=(rfl)
theorem Re{n b:Nat}{a:List (PV×PV)}:iq H (n+1) (.map b) (.fu a)=match H[b]? with
  |some (.map _ c)=>c=a
  |_=>False:=(rfl)
theorem aQf{n:Nat}{f a:a0}{c d:List AV}{vs b:List PV}:iq H (n+1) (.func f c d) (.func a vs b)=(f=a/\pK H n c vs/\pK H n d b):=(rfl)
theorem CI{n:Nat}{vs:List PV}:pK H n [] vs=(vs=[]):=(rfl)
theorem Gi{n:Nat}{x:AV}{a:List AV}{v:PV}{vs:List PV}:pK H n (x::a) (v::vs)=(iq H n x v/\pK H n a vs):=(rfl)
theorem O9{α:Type}{n:Nat}{g:α->AV}{f:α->PV}:∀{l:List α},pK H n (l.map g) (l.map f)=∀x∈l,iq H n (g x) (f x)
 |[]=>by simp[CI]
 |a::l=>by simp[Gi,O9 (l:=l)]
theorem xI(n:Nat)(c:∀(x:AV)(v:PV),iq H n x v->∃v',fP H n x=some v'/\Wk v' v):∀(b:List AV)(vs:List PV),pK H n b vs->∃a,mc (fP H n) b=some a/\bL a vs
 |[],vs,h=>by rw[CI]at h;subst h;exact⟨[],rfl,by simp[bL]⟩
 |x::b,vs,h=>by
  cases vs with
  |nil=>exact h.elim
  |cons v vs=>
   rw[Gi]at h;obtain⟨p,d,e⟩:=c x v h.1;obtain⟨a,f,g⟩:=xI n c b vs h.2;exact⟨p::a,by simp[mc,d,f],by simp only[bL];exact⟨e,g⟩⟩
theorem vc:∀(n:Nat)(x:AV)(v:PV),iq H n x v->∃v',fP H n x=some v'/\Wk v' v
 |0,x,v,h=>by
  cases x with
  |p a=>exact⟨_,rfl,h⟩
  |_=>exact h.elim
 |n+1,x,v,h=>by
  cases x with
  |p a=>rw[BD]at h;exact⟨_,rfl,h⟩
  |sl b az z off len=>
   cases v with
   |seq fs=>
    rw[RS]at h
    split at h
    case h_2=>exact h.elim
    rename_i k B D j e;obtain⟨rfl,rfl,m,g⟩:=h;obtain⟨i,c,d⟩:=xI n (vc n) _ _ g;simp only[fP,e,m,and_self,if_true]
    split
    ·rename_i hn;rw[hn.2]at g;simp only[List.drop_nil,List.take_nil,CI]at g;exact⟨_,rfl,by rw[g];simp[Wk]⟩
    ·rw[c];exact⟨_,rfl,by simp only[Wk];exact d⟩
   |_=>exact h.elim
  |st u xs=>
   cases v with
   |st u' vs=>
    obtain⟨rfl,h⟩:=h;obtain⟨i,c,d⟩:=xI n (vc n) _ _ h;simp only[fP,c];exact⟨_,rfl,by simp only[Wk];exact⟨trivial,d⟩⟩
   |_=>exact h.elim
  |aC xs=>
   cases v with
   |aC vs=>
    obtain⟨i,c,d⟩:=xI n (vc n) _ _ h;simp only[fP,c];exact⟨_,rfl,by simp only[Wk];exact d⟩
   |_=>exact h.elim
  |ptr b path=>
   cases v with
   |cM t=>
    change (match H[b]? with
     |some (.box _ y)=>match fX y path with
      |some s=>iq H n s t
      |none=>False
     |_=>False)at h
    split at h
    case h_2=>exact h.elim
    rename_i e
    split at h
    case h_2=>exact h.elim
    rename_i s hs;obtain⟨p,c,d⟩:=vc n _ _ h;simp only[fP,e,hs,c];exact⟨_,rfl,by simp only[Wk];exact d⟩
   |_=>exact h.elim
  |cA _ _ _ _ _=>exact h.elim
  |map b=>
   cases v with
   |fu j=>
    rw[Re]at h
    split at h
    case h_2=>exact h.elim
    rename_i fz r e;subst h;simp only[fP,e];exact⟨_,rfl,Wk.refl _⟩
   |_=>exact h.elim
  |func f xs C=>
   cases v with
   |func w vs us=>
    obtain⟨rfl,h,l⟩:=h;obtain⟨i,c,d⟩:=xI n (vc n) _ _ h;obtain⟨A,o,q⟩:=xI n (vc n) _ _ l;simp only[fP,c,o];exact⟨_,rfl,by simp only[Wk];exact⟨trivial,d,q⟩⟩
   |_=>exact h.elim
end pur
theorem av3{f:a0}{fn:Func}(ah:a0->Bool)(h:aA P f fn)(n:P.follows .mixedOrders=true){args:List PV}{v:PV}(hn:args.length<=fn.ntmps)
 (d:fT P ah (fn.ntmps,0) (fn.body.getD .skip) (vN P fn.results.toList v) ⟨j0 0 (args.map .p),[]⟩):vL P f args v:=by
 have hs:=h.stat;simp only[av,bne_iff_ne]at hs;have k:fn.body=some (fn.body.getD .skip):=by
  have a:=hs.1.1;clear d hs;cases l:fn.body with
  |none=>rw[l]at a;simp at a
  |some c=>rfl
 obtain⟨e,s,⟨a,vs,g,b⟩,j⟩:=qQ _ _ _ (nW (Q':=vN P fn.results.toList v) _ (fun _ _ h=>h) d);obtain⟨v',b,i⟩:=vc _ _ _ b;have m:vL P f args v':=PN (sA ah) (Cq (sA ah) n) h.enters h.func k hs.2 hn (j (Ends P fn.results.toList v') ⟨by cases e<;>exact a,vs,g,b⟩);exact m.dI (bL.refl _) i
theorem aH{f:a0}{fn:Func}(ah:a0->Bool)(h:aA P f fn)(a:P.follows .mixedOrders=true){args:List PV}{v:PV}(hn:args.length<=fn.ntmps)
 (b:fT P ah (fn.ntmps,0) (fn.body.getD .skip) (vN P fn.results.toList v) ⟨j0 0 (args.map .p),[]⟩):aq P f args v:=.inl (av3 ah h a hn b)
theorem gA_{f:a0}{fn:Func}(ah:a0->Bool)(h:P.funcs[f]?=some fn)(a:P.follows .mixedOrders=true){args:List PV}{v:PV}(b:fT P ah (fn.ntmps,0) (fn.body.getD .skip) (vN P fn.results.toList v) ⟨j0 0 (args.map .p),[]⟩)(hn:args.length<=fn.ntmps:=by exact Nat.le_of_ble_eq_true rfl)(k:(fn.body.isSome&&(fn.name != "runtime.NumGoroutine")&&codeOk fit fn.ntmps (fn.body.getD .skip))=true:=by kernel_rfl):aq P f args v:=aH ah (i_ h k) a hn b
theorem UX{α:Type}{N:Nat×Nat->Prop}{f:α->PV}{l:List α}:ba N (l.map fun x=>.p (f x))=True:=by
 rw[df,eq_iff_iff,iff_true];intro v a;simp only[bw]at a;obtain⟨x,_,rfl⟩:=a;trivial
theorem aQs{α:Type}{N:Nat×Nat->Prop}{f:α->PV}{l:List α}{i:Nat}:ba N ((l.map fun x=>.p (f x)).take i)=True:=by
 rw[df,eq_iff_iff,iff_true];intro v a;have a:=List.mem_of_mem_take a;simp only[bw]at a;obtain⟨x,_,rfl⟩:=a;trivial
theorem asg{N:Nat×Nat->Prop}{a b:List AV}:ba N (a++b)=(ba N a/\ba N b):=by
 simp only[df,dg,eq_iff_iff];exact⟨fun h=>⟨fun v c=>h v (.inl c),fun v c=>h v (.inr c)⟩,fun h v c=>c.elim (h.1 v) (h.2 v)⟩
theorem Xi{α:Type}{l:List α}{i:Nat}:(l.take i).take i=l.take i:=by simp[List.take_take]
theorem Xh{α β:Type}{f:α->β}{l:List α}:(l.map f).take l.length=l.map f:=List.take_of_length_le s_
section loops
variable{α:Type}(N:Nat)(mk:α->St)(ok:α->Prop)(m:α->Nat)(n:Nat)(Q:bF->St->Prop)
def Jq(s:Tg (N,mk,ok,m,n) St):Prop:=yS N mk ok m n s
def DK(e:Tg (N,mk,ok,m,n,Q) bF)(s:Tg (N,mk,ok,m,n,Q) St):Prop:=vz N mk ok m n Q e s
variable{N}{mk}{ok}{m}{n}{Q}{s s':St}
theorem XU:DK N mk ok m n Q .normal s=Jq N mk ok m n s:=(rfl)
theorem Zg{id:Nat}:DK N mk ok m n Q (.exit id) s=Q (.exit id) s:=(rfl)
theorem as6:DK N mk ok m n Q .ret s=Q .ret s:=(rfl)
theorem lp{d:Nat}{b:Code}(mk:α->St)(ok:α->Prop)(m:α->Nat)(c:α)(e:ok c)(jk:∀a,ok a->fT P ah (d,N) b (DK N mk ok m (m a) Q) (mk a))
 (hn:(mk c).heap.take N=s.heap.take N:=by simp)(he:oK (mk c).heap s.env (mk c).env:=by simp)(hh:ji (mk c).heap s.heap (mk c).heap:=by simp)(hr:jE (mk c).heap (mk c).env:=by simp)(hr2:eA (mk c).heap (mk c).heap:=by simp):
 fT P ah (d,N) (.loop b) Q s:=wl (q:=(d,N)) mk ok m c e jk hn he hh hr hr2
theorem rd(a':α)(a:ok a')(h1:m a'<n:=by omega)(hn:(mk a').heap.take N=s.heap.take N:=by simp)(he:oK (mk a').heap s.env (mk a').env:=by simp)(hh:ji (mk a').heap s.heap (mk a').heap:=by simp)(hr:jE (mk a').heap (mk a').env:=by simp)(hr2:eA (mk a').heap (mk a').heap:=by simp):
 Jq N mk ok m n s:=rnd a' a h1 hn he hh hr hr2
end loops
section calls
variable{f:a0}{H H1:al}{K:AV->al->Prop}{L:aZ->Prop}{v a b c d e a' b' c' d' e':PV}
theorem c0(h:aq P f [] v)(hk:K (.p v) H):mK P false f K [] H:=cw0 h hk
theorem c1(h:aq P f [a'] v)(hk:K (.p v) H)(h1:Wk a a':=by first|exact Wk.refl _|simp):mK P false f K [.p a] H:=cw1 h hk h1
theorem c2(h:aq P f [a',b'] v)(hk:K (.p v) H)(h1:Wk a a':=by first|exact Wk.refl _|simp)(c:Wk b b':=by first|exact Wk.refl _|simp):mK P false f K [.p a,.p b] H:=cw2 h hk h1 c
theorem c3(h:aq P f [a',b',c'] v)(hk:K (.p v) H)(h1:Wk a a':=by first|exact Wk.refl _|simp)(d:Wk b b':=by first|exact Wk.refl _|simp)(e:Wk c c':=by first|exact Wk.refl _|simp):mK P false f K [.p a,.p b,.p c] H:=cw3 h hk h1 d e
theorem c4(h:aq P f [a',b',c',d'] v)(hk:K (.p v) H)(e:Wk a a':=by first|exact Wk.refl _|simp)(g:Wk b b':=by first|exact Wk.refl _|simp)(i:Wk c c':=by first|exact Wk.refl _|simp)(j:Wk d d':=by first|exact Wk.refl _|simp):mK P false f K [.p a,.p b,.p c,.p d] H:=cw4 h hk e g i j
theorem c5(h:aq P f [a',b',c',d',e'] v)(hk:K (.p v) H)(g:Wk a a':=by first|exact Wk.refl _|simp)(i:Wk b b':=by first|exact Wk.refl _|simp)(j:Wk c c':=by first|exact Wk.refl _|simp)(k:Wk d d':=by first|exact Wk.refl _|simp)(l:Wk e e':=by first|exact Wk.refl _|simp):mK P false f K [.p a,.p b,.p c,.p d,.p e] H:=cw5 h hk g i j k l
theorem e0(h:aq P f [] v)(hk:L {v:=.p v}):oX P f L [] H:=ce0 h hk
theorem e1(h:aq P f [a'] v)(hk:L {v:=.p v})(h1:Wk a a':=by first|exact Wk.refl _|simp):oX P f L [.p a] H:=ce1 h hk h1
theorem e2(h:aq P f [a',b'] v)(hk:L {v:=.p v})(h1:Wk a a':=by first|exact Wk.refl _|simp)(c:Wk b b':=by first|exact Wk.refl _|simp):oX P f L [.p a,.p b] H:=ce2 h hk h1 c
theorem e3(h:aq P f [a',b',c'] v)(hk:L {v:=.p v})(h1:Wk a a':=by first|exact Wk.refl _|simp)(d:Wk b b':=by first|exact Wk.refl _|simp)(e:Wk c c':=by first|exact Wk.refl _|simp):oX P f L [.p a,.p b,.p c] H:=ce3 h hk h1 d e
theorem e4(h:aq P f [a',b',c',d'] v)(hk:L {v:=.p v})(e:Wk a a':=by first|exact Wk.refl _|simp)(g:Wk b b':=by first|exact Wk.refl _|simp)(i:Wk c c':=by first|exact Wk.refl _|simp)(j:Wk d d':=by first|exact Wk.refl _|simp):oX P f L [.p a,.p b,.p c,.p d] H:=ce4 h hk e g i j
theorem e5(h:aq P f [a',b',c',d',e'] v)(hk:L {v:=.p v})(g:Wk a a':=by first|exact Wk.refl _|simp)(i:Wk b b':=by first|exact Wk.refl _|simp)(j:Wk c c':=by first|exact Wk.refl _|simp)(k:Wk d d':=by first|exact Wk.refl _|simp)(l:Wk e e':=by first|exact Wk.refl _|simp):oX P f L [.p a,.p b,.p c,.p d,.p e] H:=ce5 h hk g i j k l
theorem cp{args:List AV}{vs a:List PV}(h:aq P f a v)(b:pG H args=some (vs,H1))(hk:K (.p v) H1)(h1:bL vs a:=by first|exact bL.refl _|simp):mK P false f K args H:=cwp h b hk h1
theorem ep{args:List AV}{vs a:List PV}{bs:List Nat}{ar aM:List (Nat×Obj)}(h:aq P f a v)(b:rC H args=some (vs,bs))(hf:nA H bs=some (ar,aM))(hk:L {v:=.p v,ar,aM})(h1:bL vs a:=by first|exact bL.refl _|simp):oX P f L args H:=cep h b hf hk h1
theorem ci{args:List AV}{H':al}{v:AV}(h:dE P f H args H' v)(hk:K v H'):mK P false f K args H:=.inr ⟨rfl,.inr (.inl ⟨H',v,h,hk⟩)⟩
end calls
attribute [simp] UX aQs asg Xi BD RS aQg aQh Re aQf CI Gi O9 Xh ba XA YV ZZ Yh YK XI Yg YP Yv ZL ZM Zt Ye Wt Yl XU Zg as6 pG mh rC pF nA pf
 aRH auS aRF aRG auQ aRE auR aX PD aRD XY ZD ZJ Yw at5 awL avl aRI auP Z6 aRO auO Z5 aFM atX aFP awj aFB awi Xw aFJ awd aFz aFR aFG YZ Yr Yq awg aFI aFE aPY asG aP1 avw aPL avu XE aPS avo aPK aP3 aPN Y9 XO X4 avr aPQ aPM awe avp atT asC Yo X1 atU asD awf avq aFN aPZ Yp X3 Yu YO aFL aPX aFK aPW YY Y8 atY asH aFH aPO aFm aFp aFo aFq
end
section
variable{P:a1}{ah:a0->Bool}{q:Cx}
theorem OD{r:fF}{K a:aZ->Prop}(hk:∀e,K e->a e)(h:bu r K):bu r a:=by
 unfold bu at h⊢
 split at h
 ·exact⟨h.1,hk _ h.2⟩
 ·exact h.elim
theorem Ze{o:Oper}{e:Env}{H:al}{K a:aZ->Prop}(hk:∀e,K e->a e)(h:gJ P ah o (ev e) H K):gJ P ah o (ev e) H a:=by
 obtain⟨x,b,c⟩:=G8 (ah:=ah) o (ev e) H K h;exact c a (hk x b)
theorem P8{o:Oper}{e:Env}{H:al}{K a:aZ->Prop}(hk:∀e,K e->a e)(h:mV P ah o e H K):mV P ah o e H a:=by
 unfold mV at h⊢
 repeat' split at h
 all_goals first|exact hk _ h|exact OD hk h|exact⟨h.1,OD hk h.2⟩|exact Ze hk h|exact h.elim
theorem Nd{d:Bool}{f:a0}{args:List AV}{H:al}{K i:AV->al->Prop}(hk:∀v H,K v H->i v H)(h:jg P d f args H K):jg P d f args H i:=by
 rcases h with⟨vs,v,a,b,c⟩|⟨g,⟨vs,H1,v,a,b,c⟩|⟨H',v,a,b⟩|⟨e,a,b,c⟩|⟨ar,v,a,b,c⟩⟩
 ·exact .inl ⟨vs,v,a,b,hk _ _ c⟩
 ·exact .inr ⟨g,.inl ⟨vs,H1,v,a,b,hk _ _ c⟩⟩
 ·exact .inr ⟨g,.inr (.inl ⟨H',v,a,hk _ _ b⟩)⟩
 ·exact .inr ⟨g,.inr (.inr (.inl ⟨e,a,b,hk _ _ c⟩))⟩
 ·exact .inr ⟨g,.inr (.inr (.inr ⟨ar,v,a,b,hk _ _ c⟩))⟩
theorem ND{f:a0}{args:List AV}{H:al}{K d:aZ->Prop}(hk:∀e,K e->d e)(h:jn P f args H K):jn P f args H d:=by
 rcases h with⟨vs,v,a,b,c⟩|⟨vs,bs,ar,aM,v,a,b,c,g⟩|⟨e,a,b,c⟩|⟨ar,v,a,b,c⟩
 ·exact .inl ⟨vs,v,a,b,hk _ c⟩
 ·exact .inr (.inl ⟨vs,bs,ar,aM,v,a,b,c,hk _ g⟩)
 ·exact .inr (.inr (.inl ⟨e,a,b,hk _ c⟩))
 ·exact .inr (.inr (.inr ⟨ar,v,a,b,hk _ c⟩))
theorem MT{o:Oper}{K b:St->Prop}{s:St}(hk:∀s,K s->b s)(h:dV P ah o K s):dV P ah o b s:=by
 unfold dV at h⊢
 split at h
 ·rename_i f args g i;unfold vu at h⊢
  split at h
  ·exact Nd (fun v H a=>hk _ a) h
  ·exact Nd (fun v H a=>hk _ a) h
  ·obtain⟨H',v,c,d⟩:=h;exact⟨H',v,c,hk _ d⟩
  ·exact h.elim
 ·exact P8 (fun e a=>hk _ a) h
theorem Nk{o:Oper}{s:St}{K a:aZ->Prop}(hk:∀e,K e->a e)(h:dW P ah o s K):dW P ah o s a:=by
 unfold dW at h⊢
 split at h
 ·rename_i f args g i;unfold vg at h⊢
  split at h
  ·exact ND hk h
  ·exact ND hk h
  ·obtain⟨e,b,c,d⟩:=h;exact⟨e,b,c,hk _ d⟩
  ·exact h.elim
 ·exact P8 hk h
theorem zG{c:Array Oper}:∀(l:List Oper){K a:St->Prop}{s:St},(∀s,K s->a s)->il P ah c l K s->il P ah c l a s
 |[],K,a,s,hk,h=>hk s h
 |o::l,K,a,s,hk,h=>by
  simp only[il]at h⊢
  split at h
  ·exact MT (fun s hs=>zG l hk hs) h
  ·split at h
   ·split at h
    ·rename_i b;rw[if_pos b];exact MT (fun s hs=>zG l hk hs) h
    ·rename_i b;rw[if_neg b];exact zG l hk h
   ·exact zG l hk h
   ·exact h.elim
theorem zB{d:Array Oper}:∀(l:List Oper){i:Nat}{b:List Touch}{K a:St->Prop}{s:St},(∀s,K s->a s)->iy P ah d l i b K s->iy P ah d l i b a s
 |[],i,b,K,a,s,hk,h=>⟨h.1,hk s h.2⟩
 |o::l,i,b,K,a,s,hk,h=>by
  simp only[iy]at h⊢
  split at h
  ·exact Nk (fun e hs=>zB l hk hs) h
  ·split at h
   ·split at h
    ·rename_i c;rw[if_pos c];exact Nk (fun e hs=>zB l hk hs) h
    ·rename_i c;rw[if_neg c];exact zB l hk h
   ·exact zB l hk h
   ·exact h.elim
theorem qP:∀(c:Code){Q g:bF->St->Prop}{s:St},(∀e s,Q e s->g e s)->dU P ah q c Q s->dU P ah q c g s
 | .skip,Q,g,s,hq,h=>hq _ _ h
 | .label _,Q,g,s,hq,h=>hq _ _ h
 | .exit _,Q,g,s,hq,h=>hq _ _ h
 | .ret,Q,g,s,hq,h=>hq _ _ h
 | .region _ ops draw,Q,g,s,hq,h=>by
  simp only[dU]at h⊢
  split at h
  ·rename_i j;rw[if_pos j];exact zB _ (fun s hs=>hq _ _ hs) h
  ·rename_i j;rw[if_neg j];exact zG _ (fun s hs=>hq _ _ hs) h
 | .seq a b,Q,g,s,hq,h=>by
  simp only[dU]at h⊢;refine qP a (fun e s d=>?_) h;cases e with
  |normal=>exact qP b hq d
  |exit i=>exact hq _ _ d
  |ret=>exact hq _ _ d
 | .cond c a b,Q,g,s,hq,h=>by
  simp only[dU]at h⊢;unfold yd at h⊢
  split at h
  ·split at h
   ·rename_i k;rw[if_pos k];exact qP a hq h
   ·rename_i k;rw[if_neg k];exact qP b hq h
  ·exact h.elim
 | .block id b,Q,g,s,hq,h=>by
  simp only[dU]at h⊢;refine qP b (fun e s d=>?_) h;cases e with
  |normal=>exact hq _ _ d
  |exit i=>
   simp only[ry]at d⊢
   by_cases hi:i=id
   ·simp only[hi,if_true]at d⊢;exact hq _ _ d
   ·simp only[hi,if_false]at d⊢;exact hq _ _ d
  |ret=>exact hq _ _ d
 | .scope b,Q,g,s,hq,h=>qP b hq h
 | .loop b,Q,g,s,hq,h=>by
  simp only[dU]at h⊢;obtain⟨I,l,m⟩:=h;refine⟨I,l,fun n t hI=>qP b (fun e s d=>?_) (m n t hI)⟩;cases e with
  |normal=>exact d
  |exit id=>exact hq _ _ d
  |ret=>exact hq _ _ d
 | .rangeFunc f o a b,Q,g,s,hq,h=>by
  simp only[dU]at h⊢;exact⟨h.1,Od (fun H=>Og hq) h.2⟩
 | .goto _,_,_,_,_,h=>h.elim
 | .refuse _,_,_,_,_,h=>h.elim
def vB(R:St->Prop)(Q:bF->St->Prop)(e:Tg (R,Q) bF)(s:Tg (R,Q) St):Prop:=match e with
 | .normal=>R s
 |e=>Q e s
theorem XM{R:St->Prop}{Q:bF->St->Prop}{s:St}:vB R Q .normal s=R s:=(rfl)
theorem Zl{R:St->Prop}{Q:bF->St->Prop}{id:Nat}{s:St}:vB R Q (.exit id) s=Q (.exit id) s:=(rfl)
theorem atg{R:St->Prop}{Q:bF->St->Prop}{s:St}:vB R Q .ret s=Q .ret s:=(rfl)
theorem join{a b:Code}{Q:bF->St->Prop}{s:St}(R:St->Prop)(d:fT P ah q a (vB R Q) s)(f:∀s',R s'->fT P ah q b Q s'):fT P ah q (.seq a b) Q s:=by
 rw[aX];refine qP a (fun e s c=>?_) d;cases e with
 |normal=>exact f s c
 |exit i=>exact c
 |ret=>exact c
theorem UY{α:Type}{N:Nat×Nat->Prop}{f:α->PV}{l:List α}:ba N (l.map (AV.p∘f))=True:=UX
attribute [simp] XM Zl atg UY
end
section
variable{P:a1}{ah:a0->Bool}
def AB(P:a1)(a:List a3)(N:Nat)(H':al)(v:AV)(e:Tg (a,N,H',v) bF)(s:Tg (a,N,H',v) St):Prop:=yl P a N H' v e s
theorem Zp{a:List a3}{N:Nat}{H':al}{v:AV}{s:St}:AB P a N H' v .ret s=∃vs,gN P s a=some vs/\oneOf vs=v/\(H'=s.heap\/(dJ N s ⟨[],H'⟩/\aF (aL H') v)):=by simp[AB,yl]
theorem Xv{a:List a3}{N:Nat}{H':al}{v:AV}{s:St}:AB P a N H' v .normal s=∃vs,gN P s a=some vs/\oneOf vs=v/\(H'=s.heap\/(dJ N s ⟨[],H'⟩/\aF (aL H') v)):=by simp[AB,yl]
theorem iC{f:a0}{fn:Func}(ah:a0->Bool)(h:aA P f fn)(a:P.follows .mixedOrders=true){args:List AV}{H H':al}{v:AV}(hn:args.length<=fn.ntmps)
 (b:fT P ah (fn.ntmps,H.length) (fn.body.getD .skip) (AB P fn.results.toList H.length H' v) ⟨j0 0 args,H⟩):dE P f H args H' v:=
 T4 ah h a hn (nW (Q':=yl P fn.results.toList H.length H' v) _ (fun _ _ h=>h) b)
theorem aQO{n i:Nat}:sig [] n i=n+i:=by simp[sig]
theorem cn{f:a0}{H H':al}{K:AV->al->Prop}{v:AV}{args:List PV}(h:dE P f [] (args.map .p) H' v)(hk:K (dc (sig [] H.length) v) (H++H'.map (dD (sig [] H.length)))):mK P false f K (args.map .p) H:=by
 refine .inr ⟨rfl,.inr (.inr (.inl ⟨eg [] H.length [] H' v,?_,⟨by simp[eg],by simp[eg]⟩,?_⟩))⟩
 ·have b:ba (aL ([]:al)) (args.map .p):=by rw[df];intro v c;obtain⟨x,_,rfl⟩:=bw.1 c;trivial
  have:=h.frame [] H.length rfl dl s_ s_ b s_;have e:dt (sig [] H.length) (args.map .p)=args.map .p:=by
   clear h b this hk
   induction args with
   |nil=>rfl
   |cons a r d=>simp only[b1,dt,dc,d]
  rwa [e]at this
 ·simpa[eg,bA]using hk
theorem TE{f:a0}{H H':al}{K:AV->al->Prop}{v:AV}{a b:PV}(h:dE P f [] [.p a,.p b] H' v)(hk:K (dc (sig [] H.length) v) (H++H'.map (dD (sig [] H.length)))):mK P false f K [.p a,.p b] H:=cn (args:=[a,b]) h hk
def SY(P:a1)(T:aT)(f:Nat):Option (aT×ly):=match kindOf P T,P.underlying T with
 | .agg u,some (.struct _)=>((lD P u)[f]?).map fun F=>(u,kindOf P F)
 |_,_=>none
def Dw(P:a1)(T:aT)(f:Nat)(x:AV):fF:=match SY P T f,x with
 |some (u,k),.p t=>match(cm t)[f]? with
  |some g=>some (aK t=.agg u/\k=aK g,{v:=.p g})
  |none=>none
 |_,_=>none
theorem PR{T:aT}{x:AV}{f:Nat}{K:aZ->Prop}:(match kindOf P T,P.underlying T,x with
  | .agg u,some (.struct _),.p t=>aK t=.agg u/\(match(cm t)[f]?,(lD P u)[f]? with
   |some g,some F=>kindOf P F=aK g/\K {v:=.p g}
   |_,_=>False)
  |_,_,_=>False)=bu (Dw P T f x) K:=by
 unfold Dw SY;cases b:kindOf P T with
 |agg u=>cases c:P.underlying T with
  |none=>simp[bu]
  |some d=>cases d with
   |struct fs=>cases x with
    |p t=>cases hc:(lD P u)[f]?<;>cases a:(cm t)[f]?<;>simp[bu,a,hc,and_assoc]
    |_=>cases hc:(lD P u)[f]?<;>simp[bu,hc]
   |_=>simp[bu]
 |_=>simp[bu]
section fields
variable{dst:Option Tmp}{ty:Nat}{pos:String}{af:Array Edge}{g:Option (Nat×Bool)}{env:Env}{heap:al}{L:St->Prop}{K:aZ->Prop}{T:aT}{x:ay}{f:Nat}
theorem avt:fo P ah ⟨dst,.field T x f,ty,pos,af,g⟩ L ⟨env,heap⟩ ()=cU (fL dst ⟨env,heap⟩ L) (Dw P T f (ev env x)):=PR
theorem awh:fh P ah ⟨dst,.field T x f,ty,pos,af,g⟩ ⟨env,heap⟩ K ()=cU K (Dw P T f (ev env x)):=PR
end fields
theorem CH{σ:Nat->Nat}{α:Type}{f:α->PV}:∀{l:List α},dt σ (l.map (AV.p∘f))=l.map (AV.p∘f)
 |[]=>rfl
 |a::l=>by simp only[b1,dt,CH (l:=l)];rfl
theorem asl{σ:Nat->Nat}{α β:Type}{f:β->PV}{g:α->β}{l:List α}:dt σ (l.map ((AV.p∘f)∘g))=l.map ((AV.p∘f)∘g):=CH (f:=f∘g)
theorem aQq{α β:Type}{N:Nat×Nat->Prop}{f:β->PV}{g:α->β}{l:List α}:ba N (l.map ((AV.p∘f)∘g))=True:=UY (f:=f∘g)
attribute [simp] avt awh asl aQq Zp Xv aQO dc dt dD CH
end
section
variable{P:a1}{ah:a0->Bool}
theorem Ql{T:al}:∀{h:al},ji T h h=True
 |[]=>by simp[ji]
 |o::h=>by simp[ji,RC,Ql (h:=h)]
theorem G6{T:al}:∀{h k:al},eA T (h++k)=(eA T h/\eA T k)
 |[],k=>by simp[eA]
 |o::h,k=>by simp[eA,G6 (h:=h),and_assoc]
theorem aQr{N:Nat×Nat->Prop}{n:Nat}{v:PV}:ba N (bo n (.p v))=True:=by
 rw[df,eq_iff_iff,iff_true];intro x hx;rw[(List.mem_replicate.1 hx).2];trivial
theorem avi{σ:Nat->Nat}{α:Type}{f:α->PV}{l:List α}:dt σ (l.map fun x=>.p (f x))=l.map fun x=>.p (f x):=CH (f:=f)
theorem yV{L:fk}{e:Env}{H:al}(h:L.env=e)(a:jE H e):∀x,aF (aL H) (aQ L.env x):=by rw[h];exact a.get
def fk.bz(L:fk):fk:={L with st:=.busy}
def fk.dn(L:fk)(j:Code):fk:={L with st:=.done,pending:=some j}
def fk.xh(L:fk):fk:={L with st:=.exhausted}
def Stream(P:a1)(g:a0)(fi ca:List PV)(d:List (List PV)):Prop:=
 ∀(b k:Nat)(c:Nat->al)(H':al),k<=d.length->(∀i,i<=k->eA (c i) (c i)/\aF (aL (c i)) (.map b))->
  (∀i a,i<k->d[i]?=some a->gz P b (c i) (a.map .p) (c (i+1)) (.p (.bool true)))->
  (k=d.length/\H'=c k\/∃a,d[k]?=some a/\gz P b (c k) (a.map .p) H' (.p (.bool false)))->
  dE P g (c 0) (fi.map .p++[.map b]++ca.map .p) H' (.p (.aC []))
theorem aFn{b:Nat}{args:List AV}{M:AV->al->Prop}{heap:al}:D1 P heap M (.map b) args=∃H' v,gz P b heap args H' v/\M v H':=(rfl)
def yI(b:Nat)(L:fk)(N:Nat)(H':al)(v:Bool)(e:Tg (b,L,N,H',v) bF)(s:Tg (b,L,N,H',v) St):Prop:=
 match e with
 | .normal=>v=true/\(St.heap s)[b]?=some (.loop L.bz)/\dJ N ⟨[],(St.heap s).set b (.loop L)⟩ ⟨[],H'⟩
 | .exit id=>v=false/\(St.heap s)[b]?=some (.loop L.bz)/\dJ N ⟨[],(St.heap s).set b (.loop (L.dn (.exit id)))⟩ ⟨[],H'⟩
 | .ret=>v=false/\(St.heap s)[b]?=some (.loop L.bz)/\dJ N ⟨[],(St.heap s).set b (.loop (L.dn .ret))⟩ ⟨[],H'⟩
section
variable{b N:Nat}{L:fk}{H':al}{v:Bool}{s:St}
theorem ZG:yI b L N H' v .normal s=(v=true/\s.heap[b]?=some (.loop L.bz)/\dJ N ⟨[],s.heap.set b (.loop L)⟩ ⟨[],H'⟩):=(rfl)
theorem avk{id:Nat}:yI b L N H' v (.exit id) s=(v=false/\s.heap[b]?=some (.loop L.bz)/\dJ N ⟨[],s.heap.set b (.loop (L.dn (.exit id)))⟩ ⟨[],H'⟩):=(rfl)
theorem aQk:yI b L N H' v .ret s=(v=false/\s.heap[b]?=some (.loop L.bz)/\dJ N ⟨[],s.heap.set b (.loop (L.dn .ret))⟩ ⟨[],H'⟩):=(rfl)
end
def Jc(P:a1)(ah:a0->Bool)(q:Cx)(b:Nat)(c:Code)(L:fk)(H':al)(v:Bool)(e:Tg (q,b,c,L,H',v) bF)(s:Tg (q,b,c,L,H',v) St):Prop:=
 match e with
 | .normal=>(St.heap s)[b]?=some (.loop L)/\fT P ah q c (yI b L q.2 H' v) ⟨St.env s,(St.heap s).set b (.loop L.bz)⟩
 |_=>False
theorem ZH{q:Cx}{b:Nat}{c:Code}{L:fk}{H':al}{v:Bool}{s:St}:Jc P ah q b c L H' v .normal s=(s.heap[b]?=some (.loop L)/\fT P ah q c (yI b L q.2 H' v) ⟨s.env,s.heap.set b (.loop L.bz)⟩):=(rfl)
theorem wG(ah:a0->Bool)(q:P.follows .mixedOrders=true){b n:Nat}{L:fk}{H H':al}{args:List AV}{v:Bool}{j:List Tmp}{a c:Code}{env:Env}
 (d:L=⟨.ready,none,n,j,a,c,env⟩)(m:H[b]?=some (.loop L))(o:args.length=j.length)
 (r:(j.all (fun x=>decide (x<n))&&codeOk fit n a&&codeOk fit n c)=true)
 (t:fT P ah (n,H.length) a (Jc P ah (n,H.length) b c L H' v) ⟨u9 j args env,H⟩):gz P b H args H' (.p (.bool v)):=by
 refine T5 ah q m (by rw[d];exact o) (by rw[d];exact r) ?_;unfold C1;have e1:L.n=n:=by rw[d]
 have e2:L.assign=a:=by rw[d]
 have e3:L.body=c:=by rw[d]
 have e4:L.params=j:=by rw[d]
 have e5:L.env=env:=by rw[d]
 have e6:L.st=.ready:=by rw[d]
 rw[e1,e2,e3,e4,e5];refine nW (Q:=Jc P ah (n,H.length) b c L H' v) _ (fun e s h=>?_) t;cases e with
 |normal=>
  obtain⟨k,l⟩:=h;simp only[Cp,k];refine⟨e6,nW (Q:=yI b L H.length H' v) _ (fun e s h=>?_) l⟩;cases e with
  |normal=>
   obtain⟨rfl,f,g⟩:=h;have i:s.heap[b]?=some (.loop L.bz):=f;simp only[xq,i,jf];refine⟨rfl,?_⟩;have:({L.bz with st:=LoopState.ready,pending:=none}:fk)=L:=by subst d;rfl
   simpa[this]using g
  |exit id=>
   obtain⟨rfl,f,g⟩:=h;have i:s.heap[b]?=some (.loop L.bz):=f;simp only[xq,i,jf];exact⟨rfl,g⟩
  |ret=>
   obtain⟨rfl,f,g⟩:=h;have i:s.heap[b]?=some (.loop L.bz):=f;simp only[xq,i,jf];exact⟨rfl,g⟩
 |exit id=>exact h.elim
 |ret=>exact h.elim
theorem rf{f:ay}{h:Array Tmp}{a c:Code}{Q:bF->St->Prop}{env:Env}{heap:al}{q:Cx}{g:a0}{fi ca:List PV}{n:List (List PV)}(aO:Stream P g fi ca n)(hf:ev env f= .p (.func g fi ca))(hq:q.2<=heap.length)
 (X:fk->Nat->al)(k:Nat)(hk:k<=n.length)(u:∀L,X L 0=heap++[.loop L])
 (hx:∀L,L=⟨.ready,none,q.1,h.toList,a,c,env⟩->∀i,i<=k->(X L i)[heap.length]?=some (.loop L)/\jE (X L i) env/\(jE (X L i) env->(∀x,aF (aL (X L i)) (aQ L.env x))->eA (X L i) (X L i)))
 (t:∀L,L=⟨.ready,none,q.1,h.toList,a,c,env⟩->∀i x,i<k->n[i]?=some x->gz P heap.length (X L i) (x.map .p) (X L (i+1)) (.p (.bool true)))
 (y:∀L,L=⟨.ready,none,q.1,h.toList,a,c,env⟩->(k=n.length/\Q .normal ⟨env,(X L k).set heap.length (.loop L.xh)⟩)\/
  ∃x j l,n[k]?=some x/\l[heap.length]?=some (.loop (L.dn j))/\gz P heap.length (X L k) (x.map .p) l (.p (.bool false))/\lJ Q (some j) ⟨env,l.set heap.length (.loop (L.dn j).xh)⟩):
 fT P ah q (.rangeFunc f h a c) Q ⟨env,heap⟩:=by
 obtain⟨L,b⟩:∃L:fk,L=⟨.ready,none,q.1,h.toList,a,c,env⟩:=⟨_,rfl⟩
 have s:=aO heap.length k (X L);refine⟨hq,?_⟩;show kV P (ev env f) heap.length (heap++[.loop ⟨.ready,none,q.1,h.toList,a,c,env⟩]) (jD heap.length env Q);rw[hf];simp only[kV];rw[<-b,<-u L];have r:∀i,i<=k->eA (X L i) (X L i)/\aF (aL (X L i)) (.map heap.length):=by
  intro i hi;obtain⟨m,d,o⟩:=hx L b i hi;have e5:L.env=env:=by rw[b]
  refine⟨o d (by rw[e5];exact d.get),?_⟩;simp only[aF,aL,m];exact⟨_,rfl,by simp[Obj.has]⟩
 rcases y L b with⟨m,d⟩|⟨x,j,l,m,d,o,v⟩
 ·refine⟨_,_,s (X L k) hk r (t L b) (.inl ⟨m,rfl⟩),?_⟩;have w:=(hx L b k (dz k)).1;simp only[jD,w];refine⟨by rw[b];simp,?_⟩;have:L.pending=none:=by rw[b]
  simp only[this,lJ];have e:L.xh={L with st:=.exhausted}:=rfl;rw[this]at e;rw[e]at d;exact d
 ·refine⟨_,_,s l hk r (t L b) (.inr ⟨x,m,o⟩),?_⟩;simp only[jD,d];exact⟨by simp[fk.dn],v⟩
section aGu
variable{f:a0}{H0 ch H:al}{gP args:List AV}{v0:AV}{K:AV->al->Prop}{L:aZ->Prop}
theorem Kx(h:dE P f H0 gP ch v0)(bs:List Nat)(e:bs.length=H0.length)(i:bs.Nodup)(g:∀b∈bs,b<H.length)(d:H0.length<=ch.length)(a:ba (aL H0) gP)(j:eA H0 H0)(c:dt (sig bs H.length) gP=args):
 vM P f args H.length (eg bs H.length H0 ch v0):=by
 have:=h.frame bs H.length e i g d a j.get
 rwa [c]at this
theorem cf(h:dE P f H0 gP ch v0)(bs:List Nat)(hk:K (dc (sig bs H.length) v0) (bA H (bs.zip ((ch.take H0.length).map (dD (sig bs H.length))))++(ch.drop H0.length).map (dD (sig bs H.length))))(ar:∀p∈bs.zip (H0.map (dD (sig bs H.length))),H[p.1]?=some p.2:=by simp[sig])(aM:∀p∈bs.zip ((ch.take H0.length).map (dD (sig bs H.length))),p.1<H.length/\p.2≠ .hole:=by simp[sig])
 (e:bs.length=H0.length:=by simp)(i:bs.Nodup:=by simp)(g:∀b∈bs,b<H.length:=by simp)(d:H0.length<=ch.length:=by simp)(a:ba (aL H0) gP:=by simp)(hr:eA H0 H0:=by simp)(c:dt (sig bs H.length) gP=args:=by simp[sig]):mK P false f K args H:=
 .inr ⟨rfl,.inr (.inr (.inl ⟨_,Kx h bs e i g d a hr c,⟨ar,aM⟩,hk⟩))⟩
theorem ef(h:dE P f H0 gP ch v0)(bs:List Nat)(hk:L {v:=dc (sig bs H.length) v0,ar:=bs.zip (H0.map (dD (sig bs H.length))),aM:=bs.zip ((ch.take H0.length).map (dD (sig bs H.length))),aY:=(ch.drop H0.length).map (dD (sig bs H.length))})(ar:∀p∈bs.zip (H0.map (dD (sig bs H.length))),H[p.1]?=some p.2:=by simp[sig])(aM:∀p∈bs.zip ((ch.take H0.length).map (dD (sig bs H.length))),p.1<H.length/\p.2≠ .hole:=by simp[sig])
 (e:bs.length=H0.length:=by simp)(i:bs.Nodup:=by simp)(g:∀b∈bs,b<H.length:=by simp)(d:H0.length<=ch.length:=by simp)(a:ba (aL H0) gP:=by simp)(j:eA H0 H0:=by simp)(c:dt (sig bs H.length) gP=args:=by simp[sig]):oX P f L args H:=
 .inr (.inr (.inl ⟨_,Kx h bs e i g d a j c,⟨ar,aM⟩,hk⟩))
end aGu
section bytes
variable{dst:Option Tmp}{ty:Nat}{pos:String}{af:Array Edge}{g:Option (Nat×Bool)}{env:Env}{heap:al}{L:St->Prop}{K:aZ->Prop}
theorem aFQ{x:ay}{d:Array aT}{b az ak off len:Nat}{k:AK}{es:List AV}(hx:ev env x= .sl b az ak off len)(f:heap[b]?=some (.arr k az ak es))(e:0<len)(h:off+len<=es.length)
 (hk:K {v:=.cA b az ak off [],ar:=[(b,.arr k az ak es)]}):fh P ah ⟨dst,.call {callee:=.builtin .unsafeSliceData,args:=#[x],argTypes:=d},ty,pos,af,g⟩ ⟨env,heap⟩ K ():=by
 show(match ev env x with
   | .p .aI=>K {v:=.p .eO}
   | .sl b az ak off len=>(match heap[b]? with
    |some (.arr k c a es)=>az=c/\ak=a/\((k.gr=true/\es=[]/\K {v:=.p .eO,ar:=[(b,.arr k c a es)]})\/(0<len/\off+len<=es.length/\K {v:=.cA b az ak off [],ar:=[(b,.arr k c a es)]}))
    |_=>False)
   |_=>False)
 rw[hx];simp only[f];exact⟨trivial,trivial,.inr ⟨e,h,hk⟩⟩
theorem aFS{x y:ay}{a:Array aT}{b az:Nat}{m:Int}{es:List AV}{l:List Nat}(hx:ev env x= .cA b az 1 0 [])(o:ev env y= .p (.int .i64 m))(i:heap[b]?=some (.arr .bytes az 1 es))(c:0<m)(k:m.toNat<=es.length)(d:m<=9223372036854775807)
 (f:a.size=2)(e:ptrTo P (a.getD 0 0)=some Gl.u8)(n:P.cellsOf Gl.u8=1)(j:bytesOf (es.take m.toNat)=some l)
 (hk:K {v:=.p (.str l),ar:=[(b,.arr .bytes az 1 es)],aM:=[(b,.dead)]}):fh P ah ⟨dst,.call {callee:=.builtin .unsafeString,args:=#[x,y],argTypes:=a},ty,pos,af,g⟩ ⟨env,heap⟩ K ():=by
 have h:gJ P ah ⟨dst,.call {callee:=.builtin .unsafeString,args:=#[x,y],argTypes:=a},ty,pos,af,g⟩ (ev env) heap K:=by
  unfold gJ;simp only[b1,List.map_nil,hx,o,i];exact⟨trivial,trivial,trivial,trivial,c,k,d,f,e,n,by rw[j];exact hk⟩
 exact h
end bytes
theorem rf2{f:ay}{h:Array Tmp}{a c:Code}{Q:bF->St->Prop}{env:Env}{heap:al}{q:Cx}{g:a0}{fi ca:List PV}{b:List (List PV)}(aO:Stream P g fi ca b)(hf:ev env f= .p (.func g fi ca))(hq:q.2<=heap.length)
 (X F:fk->Nat->al)(okB:Nat->Bool)(j:Code)(k:Nat)(hk:k<=b.length)(u:∀i,i<k->okB i=true)(r:k=b.length\/(k<b.length/\okB k=false))(m:∀L,X L 0=heap++[.loop L])
 (hx:∀L,L=⟨.ready,none,q.1,h.toList,a,c,env⟩->∀i,i<=k->(X L i)[heap.length]?=some (.loop L)/\jE (X L i) env/\(jE (X L i) env->(∀x,aF (aL (X L i)) (aQ L.env x))->eA (X L i) (X L i)))
 (l:∀L,L=⟨.ready,none,q.1,h.toList,a,c,env⟩->∀i x,i<=k->b[i]?=some x->gz P heap.length (X L i) (x.map .p) (if okB i=true then X L (i+1)else F L (i+1)) (.p (.bool (okB i))))
 (n:∀L,(F L (k+1))[heap.length]?=some (.loop (L.dn j)))
 (s:k=b.length->∀L,Q .normal ⟨env,(X L k).set heap.length (.loop L.xh)⟩)
 (v:k<b.length->∀L,lJ Q (some j) ⟨env,(F L (k+1)).set heap.length (.loop (L.dn j).xh)⟩):
 fT P ah q (.rangeFunc f h a c) Q ⟨env,heap⟩:=by
 refine rf aO hf hq X k hk m hx (fun L e i x hi t=>?_) (fun L e=>?_)
 ·have:=l L e i x o_ t;rw[u i hi]at this;exact this
 ·rcases r with d|⟨d,o⟩
  ·exact .inl ⟨d,s d L⟩
  ·right;refine⟨b[k],j,F L (k+1),be d,n L,?_,v d L⟩;have:=l L e k b[k] (dz _) (be d);rw[o]at this;exact this
attribute [simp] avi aQr Ql G6 ZG avk aQk ZH aFn u9
end
section
variable{P:a1}{ah:a0->Bool}{w:a5}{ad ai:Nat->Prop}{β:Bd}{H:al}
def aUF(K:Nat->Bool)(H:al):al:=H.mapIdx fun i o=>if K i then .dead else o
def aSh(K:Nat->Bool)(ad:Nat->Prop)(β:Bd)(H:al)(k:Nat):Prop:=ad k\/∃(b:Nat)(o:Obj),H[b]?=some o/\o.live/\K b=true/\β.au b=k
theorem gC.held{b:Nat}{o:Obj}(h:gC P w ad β H ai b o)(a:o.live):ad (β.au b)\/¬ai (β.au b):=by
 by_cases hi:ad (β.au b)
 ·exact .inl hi
 ·exact .inr (h.mut a hi)
end
section
variable{P:a1}{w:a5}{ad ai:Nat->Prop}{β:Bd}
theorem xj{t t':AV}{r:al}:cO β (.box false t::r) β (.box false t'::r):=by
 refine⟨fun b _ h=>⟨?_,rfl⟩,fun b _ h=>⟨?_,rfl⟩,fun b _ h=>⟨?_,rfl⟩,fun b az ak k c _ h=>⟨k,c,?_,dz _,Iff.rfl,fun _=>⟨rfl,rfl⟩⟩,fun b _ h=>⟨?_,rfl⟩⟩
 ·cases b with
  |zero=>exact⟨false,t,rfl⟩
  |succ b=>exact h
 ·obtain⟨s,q,h⟩:=h;cases b with
  |zero=>simp at h
  |succ b=>exact⟨s,q,h⟩
 ·obtain⟨d,h,a⟩:=h;cases b with
  |zero=>simp at h;subst h;exact a.elim
  |succ b=>exact⟨d,h,a⟩
 ·cases b with
  |zero=>simp[gn]at h
  |succ b=>exact h
 ·obtain⟨L,h⟩:=h;cases b with
  |zero=>simp at h
  |succ b=>exact⟨L,h⟩
theorem uO{t t':AV}{r:al}{x:Nat×Nat}(h:aL (.box false t::r) x):aL (.box false t'::r) x:=by
 obtain⟨o,a,c⟩:=h;obtain⟨b,v⟩:=x;cases b with
 |zero=>exact⟨_,rfl,trivial⟩
 |succ b=>exact⟨o,a,c⟩
theorem cB.swap{t d:AV}{r:al}(c:cB P w ad β (.box false t::r) ai)(hc:∀cs,bC P w ad β (.box false t::r) t cs->bC P w ad β (.box false t::r) d cs)(l:∀T,lj T (aa d)=true)
 (g:∀n,aF n t->aF n d):cB P w ad β (.box false d::r) ai:=by
 refine⟨fun b o a=>?_,fun b b' o o' a q f p hn m=>?_,fun b o a=>?_,c.cq,c.fO,c.lr⟩
 ·cases b with
  |zero=>
   simp at a;subst a;obtain⟨cs,T,i,j,k,v,y⟩:=c.dj 0 _ rfl;have s:=c.refs 0 _ rfl;exact⟨cs,T,i,bC.mono (fun _ x=>x) (fun _ _=>rfl) xj _ _ (g _ s) (hc _ j),k,(fun h=>absurd h s_),l T⟩
  |succ b=>exact gC.carry (fun _ x=>x) (fun _ _=>rfl) xj (c.refs (b+1) o a) (fun _=>⟨rfl,rfl,rfl⟩) (fun _ _ h=>h) (c.dj (b+1) o a)
 ·have key:∀{b:Nat}{o:Obj},(Obj.box false d::r)[b]?=some o->o.live->∃e,(Obj.box false t::r)[b]?=some e/\e.live:=by
   intro b o a f;cases b with
   |zero=>exact⟨_,rfl,trivial⟩
   |succ b=>exact⟨o,a,f⟩
  obtain⟨e,k1,k2⟩:=key a f;obtain⟨u,k3,k4⟩:=key q p;exact c.inj b b' e u k1 k3 k2 k4 hn m
 ·cases b with
  |zero=>
   simp at a;subst a;exact aF.mono (fun _ h=>uO h) _ (g _ (c.refs 0 _ rfl))
  |succ b=>exact Obj.CE (fun _ h=>uO h) (c.refs (b+1) o a)
theorem Qu{H:al}{u:aT}{n:Nat}(f:dS P u=some [n]){t:AV}{cs:List a4}:bC P w ad β H (.st u [t]) cs↔bC P w ad β H t cs/\cs.length=n:=by
 simp only[bC,f,ee];constructor
 ·rintro⟨l,g,rfl,a,rfl⟩;simp only[bX]at a;obtain⟨c,d,rfl,b,e,rfl⟩:=a;simpa using⟨b,e⟩
 ·rintro⟨a,b⟩;exact⟨[n],[cs],rfl,by simp only[bX];exact⟨cs,[],rfl,a,b,rfl⟩,s_⟩
theorem dE.wrap{f:a0}{u:aT}{n:Nat}{t i:AV}{r j:al}{args:List AV}{v:AV}(q:dS P u=some [n])(a:∀T,lj T (.agg u)=true)(E:∀T,lj T (aa t)=true)(hn:∀(w:a5)(ad:Nat->Prop)(β:Bd)(H:al)(cs:List a4),bC P w ad β H i cs->cs.length=n)
 (h:dE P f (.box false t::r) (.ptr 0 []::args) (.box false i::j) v):dE P f (.box false (.st u [t])::r) (.ptr 0 [(u,0)]::args) (.box false (.st u [i])::j) v:=by
 refine⟨h.1,fun w ad ai β M G C y=>?_⟩;have I:cB P w ad β (.box false t::r) ai:=G.swap (fun cs h=>((Qu q).1 h).1) E (fun n h=>by simpa[aF,ba]using h);obtain⟨x,xs,rfl,h1,B⟩:=C;have D:bH P w ad β (.box false t::r) (.ptr 0 []::args) (x::xs):=by
  refine⟨x,xs,rfl,?_,bH.mono (fun _ x=>x) (fun _ _=>rfl) xj _ _ y.2 B⟩;obtain⟨q1,au,off,o,s,K,q4⟩:=h1;refine⟨q1,au,off,0,s,rfl,fun _=>?_⟩;have F:o=0:=by simpa[iv,q]using K.symm
  have:=q4 (.inl ⟨false,_,rfl⟩);rw[F]at this;exact this
 refine(h.2 w ad ai β (x::xs) I D ⟨⟨_,rfl,trivial⟩,ba.mono (fun _ h=>uO h) _ y.2⟩).mono ?_;rintro e w' ⟨cv,aN,aG,rfl,g,J,z⟩;refine⟨cv,aN,aG,rfl,⟨g.cq,g.fresh,g.ext,?_,?_,fun x hx=>uO (g.gU x (uO hx)),?_⟩,aB.mono (fun _ x=>x) (fun _ _=>rfl) xj _ _ z J,aF.mono (fun _ h=>uO h) _ z⟩
 ·have aO:=g.step;have m:=xj (β:=β) (t:=.st u [t]) (t':=t) (r:=r);have p:=xj (β:=aN) (t:=i) (t':=.st u [i]) (r:=j);have d:∀x,aL (.box false (.st u [t])::r) x->aL (.box false t::r) x:=fun x h=>uO h;have l:∀x,aL (.box false t::r) x->aL (.box false i::j) x:=g.gU;refine⟨fun b a c=>?_,fun b a c=>?_,fun b a c=>?_,fun b az ak k es a c=>?_,fun b a c=>?_⟩
  ·obtain⟨k1,k2⟩:=p.box b (l _ (d _ a)) c;obtain⟨k3,k4⟩:=aO.box b (d _ a) k1;exact⟨(m.box b a k3).1,k4⟩
  ·obtain⟨k1,k2⟩:=p.it b (l _ (d _ a)) c;obtain⟨k3,k4⟩:=aO.it b (d _ a) k1;exact⟨(m.it b a k3).1,k4⟩
  ·obtain⟨k1,k2⟩:=p.map b (l _ (d _ a)) c;obtain⟨k3,k4⟩:=aO.map b (d _ a) k1;exact⟨(m.map b a k3).1,k4⟩
  ·have k1:gn (.box false i::j) b az ak k es:=by
    cases b with
    |zero=>simp[gn]at c
    |succ b=>exact c
   obtain⟨k0,iT,q1,s⟩:=aO.arr b az ak k es (d _ a) k1;refine⟨k0,iT,?_,s⟩;cases b with
   |zero=>simp[gn]at q1
   |succ b=>exact q1
  ·obtain⟨k1,k2⟩:=p.loop b (l _ (d _ a)) c;obtain⟨k3,k4⟩:=aO.loop b (d _ a) k1;exact⟨(m.loop b a k3).1,k4⟩
 ·exact g.rel.swap (fun cs h=>(Qu q).2 ⟨h,hn _ _ _ _ _ h⟩) a (fun n h=>by simpa[aF,ba]using h)
 ·rintro b ⟨L,c⟩;have k1:je (.box false t::r) b:=by
   cases b with
   |zero=>simp at c
   |succ b=>exact⟨L,c⟩
  obtain⟨A,k2⟩:=g.loop b k1;cases b with
  |zero=>simp at k2
  |succ b=>exact⟨A,k2⟩
end
section
variable{P:a1}{w:a5}{ad ai:Nat->Prop}{β:Bd}
def yj(n:Nat):al:=bo n .dead
theorem qR{n b:Nat}{o:Obj}(h:(yj n)[b]?=some o):o=.dead:=by
 simp only[yj,cd]at h
 split at h
 ·injection h with h;exact h.symm
 ·cases h
theorem dE.cut{f:a0}{H:al}{args:List AV}{n:Nat}{p:PV}(h:dE P f H args (yj n) (.p p)):dE P f H args (yj H.length) (.p p):=by
 refine⟨h.1,fun w ad ai β i u q v=>(h.2 w ad ai β i u q v).mono ?_⟩;rintro e w' ⟨cv,aN,aG,rfl,a,y,z⟩;have no:∀{m b:Nat}{o:Obj},(yj m)[b]?=some o->o.live->False:=fun h d=>by rw[qR h]at d;exact d
 refine⟨cv,aN,aG,rfl,⟨a.cq,a.fresh,a.ext,⟨?_,?_,?_,?_,?_⟩,⟨fun b o c=>by rw[qR c];trivial,fun b b' o o' c _ d=>(no c d).elim,fun b o c=>by rw[qR c];trivial,a.rel.cq,a.rel.fO,a.rel.lr⟩,?_,?_⟩,y,trivial⟩
 ·rintro b _ ⟨fz,t,h⟩;cases qR h
 ·rintro b _ ⟨fz,t,h⟩;cases qR h
 ·rintro b _ ⟨A,h,g⟩;rw[qR h]at g;exact g.elim
 ·intro b az ak k es _ h;cases qR h
 ·rintro b _ ⟨L,h⟩;cases qR h
 ·rintro x ⟨o,j,_⟩;have s:=(bf.1 j).1;exact⟨.dead,by rw[yj,cd,if_pos s],trivial⟩
 ·intro b r;obtain⟨L,l⟩:=a.loop b r;cases qR l
theorem dE.dI{f:a0}{H H':al}{args:List AV}{v v':PV}(h:dE P f H args H' (.p v))(j:Wk v v'):dE P f H args H' (.p v'):=by
 refine⟨h.1,fun w ad ai β a g c i=>(h.2 w ad ai β a g c i).mono ?_⟩;rintro e w' ⟨cv,aN,aG,rfl,d,b,k⟩;exact⟨cv,aN,aG,rfl,d,aE.dI _ _ _ j b,trivial⟩
end
section
variable{P:a1}
def DV(P:a1)(a:List a3)(N:Nat)(Q:AV->al->Prop)(e:Tg (a,N,Q) bF)(s:Tg (a,N,Q) St):Prop:=
 (match e with
  | .exit _=>False
  |_=>True)/\∃vs,gN P s a=some vs/\∃H',Q (oneOf vs) H'/\(H'=St.heap s\/(dJ N s ⟨[],H'⟩/\aF (aL H') (oneOf vs)))
theorem atE{a:List a3}{N:Nat}{Q:AV->al->Prop}{s:St}:DV P a N Q .ret s=∃vs,gN P s a=some vs/\∃H',Q (oneOf vs) H'/\(H'=s.heap\/(dJ N s ⟨[],H'⟩/\aF (aL H') (oneOf vs))):=by simp[DV]
theorem Yj{a:List a3}{N:Nat}{Q:AV->al->Prop}{s:St}:DV P a N Q .normal s=∃vs,gN P s a=some vs/\∃H',Q (oneOf vs) H'/\(H'=s.heap\/(dJ N s ⟨[],H'⟩/\aF (aL H') (oneOf vs))):=by simp[DV]
attribute [simp] atE Yj
end
section
variable{P:a1}
theorem aq.heap{f:a0}{vs i:List PV}{v:PV}{H H1:al}{args:List AV}(h:aq P f vs v)(d:Enters P f)(n:pG H args=some (i,H1))(k:bL i vs:=by first|exact bL.refl _|simp):dE P f H args H1 (.p v):=by
 refine⟨d,fun w ad ai β u t q o=>?_⟩;obtain⟨b,a,g⟩:=Gj n t q o;rcases h.dI k (Wk.refl _)with l|m
 ·intro cs;obtain⟨e,w',j,⟨cv,aG,he,m1,m2,m3,m4,m5,m6,m7⟩,aO,r,s⟩:=l.2 w b _ a.rel.cq a.rel.lr g cs;subst he;exact⟨_,w',j,⟨cv,β,aG,rfl,a.trans (a.rel.later m1 m2 m3 m4 m5 m6),by simpa[aB]using m7,by simp[aF]⟩,aO,r,s⟩
 ·obtain⟨cv,c,_⟩:=m w b _ g;rw[d]at c;cases c
end
section
variable{P:a1}{ah:a0->Bool}
theorem EY(H:al):(gM H).map (·.1)=bl H.length:=by
 rw[gM,c9];simp
theorem VJ{H a:al}(e:a.length=H.length):bA H (gM a)=a:=by
 have hn:((gM a).map (·.1)).Nodup:=by rw[EY];exact b2
 refine c6 fun i=>?_
 by_cases hi:i<a.length
 ·have c:(i,a[i])∈gM a:=by
   rw[gM,bi];exact⟨i,by simp;exact hi,by rw[cb];simp⟩
  rw[xT hn _ c (by simp only;omega),be hi]
 ·have b:(bA H (gM a))[i]?=H[i]?:=uU fun p d=>by
   have:p.1∈(gM a).map (·.1):=cx d
   rw[EY,List.mem_range]at this;omega
  rw[b,ce o_,ce o_]
end
section
variable{P:a1}{ah:a0->Bool}
theorem gz.aGe{b:Nat}{H a:al}{args:List AV}{v:AV}(h:gz P b H args a v)(g:H.length<=a.length)(d:ba (aL H) args)(j:eA H H):
 rD P b args H.length {v:=v,ar:=gM H,aM:=gM (a.take H.length),aY:=a.drop H.length}:=by
 have hf:=h.frame (bl H.length) H.length s_ b2 (fun b f=>by simpa using f) g d j.get;rw[DP]at hf;have e:eg (bl H.length) H.length H a v={v:=v,ar:=gM H,aM:=gM (a.take H.length),aY:=a.drop H.length}:=by
  have c:(a.take H.length).length=H.length:=by rw[b5];omega
  simp only[eg,DP,AF];rw[show(dD fun i=>i)=id from funext Tc,b0,b0,b0,gM,gM,c]
 rw[e,sO]at hf;exact hf
open Classical in
noncomputable def vV(H H2:al):List (Nat×Obj):=(gM (H2.take H.length)).filter fun p=>decide (H[p.1]?≠some p.2)
open Classical in
theorem Br{H H2:al}{p:Nat×Obj}:p∈vV H H2↔p∈gM (H2.take H.length)/\H[p.1]?≠some p.2:=by
 simp[vV,List.mem_filter]
theorem JK{H:al}{i:Nat}{o:Obj}(h:H[i]?=some o):(i,o)∈gM H:=by
 have hi:=(bf.1 h).1;rw[gM,bi];refine⟨i,by simp;exact hi,?_⟩;rw[cb,List.getElem_range];rw[be hi]at h;injection h with h
 rw[h]
theorem Jz(H:al):((gM H).map (·.1)).Nodup:=by rw[EY];exact b2
theorem VH(H a:al):((vV H a).map (·.1)).Nodup:=by
 refine List.Nodup.sublist ?_ (Jz (a.take H.length));exact List.Sublist.map _ List.filter_sublist
theorem JC{H a c:al}(n:H.length<=a.length)(h:∀i,i<H.length->c[i]?=H[i]?):bA c (vV H a)=bA c (gM (a.take H.length)):=by
 refine c6 fun i=>?_;have m:(a.take H.length).length=H.length:=by rw[b5];omega
 by_cases hi:i<H.length
 ·have j:i<c.length:=by
   have:=h i hi;rw[be hi]at this;exact(bf.1 this).1
  have f:(a.take H.length)[i]?=some a[i]:=by rw[b3,if_pos hi,be o_]
  have k:=JK f;rw[xT (Jz _) _ k j]
  by_cases hc:H[i]?=some a[i]
  ·rw[uU (fun p b=>?_),h i hi,hc];rw[Br]at b;intro e;have d:=yt b.1;rw[e,f]at d;injection d with d
   have g:=b.2;rw[e,<-d]at g;exact g hc
  ·have l:(i,a[i])∈vV H a:=by
    rw[Br];exact⟨k,hc⟩
   rw[xT (VH _ _) _ l j]
 ·rw[uU (fun p b=>?_),uU (fun p b=>?_)]
  ·have:=(bf.1 (yt b)).1;omega
  ·rw[Br]at b;have:=(bf.1 (yt b.1)).1;omega
theorem gz.aGd{b:Nat}{H a:al}{args:List AV}{v:AV}(h:gz P b H args a v)(f:H.length<=a.length)(n:ba (aL H) args)(q:eA H H):
 rD P b args H.length {v:=v,ar:=gM H,aM:=vV H a,aY:=a.drop H.length}:=by
 have o:=h.aGe f n q;intro c w ad ai β g j k l d m;have p:∀i,i<H.length->c[i]?=H[i]?:=fun i hi=>by
  rw[be hi];exact d _ (JK (be hi))
 have e:bA c (vV H a++newAt H.length (a.drop H.length))=bA c (gM (a.take H.length)++newAt H.length (a.drop H.length)):=by
  rw[zw,zw,JC f p]
 have:=o c w ad ai β g j k l d m;dsimp only at this⊢;rw[e];exact this
theorem yg{b:Nat}{H a:al}{args:List PV}{as:List AV}{v:PV}{K:aZ->Prop}(h:gz P b H (args.map .p) a (.p v))(has:as=args.map .p)(k:H.length<=a.length)(o:eA H H)(n:∀i,i<H.length->a[i]?=some .hole->H[i]?=some .hole)
 (hk:∀e:aZ,(∀dst env,aZ.app e dst ⟨env,H⟩=⟨put dst (.p v) env,a⟩)->K e):AU P H K (.map b) as:=by
 subst has;have m:ba (aL H) (args.map AV.p):=kj _ _;show∃e,rD P b (args.map .p) H.length e/\rH H e/\K e;have g:(a.take H.length).length=H.length:=by rw[b5];omega
 refine⟨_,h.aGd k m o,⟨fun p c=>yt c,fun p c=>?_⟩,hk _ fun dst env=>?_⟩
 ·rw[Br]at c;have f:=yt c.1;have d:=(bf.1 f).1;rw[g]at d;refine⟨d,fun e=>?_⟩;rw[b3,if_pos d,e]at f;have l:=n _ d f;have j:=c.2;rw[e]at j;exact j l
 ·simp only[aZ.app];rw[JC k (fun _ _=>rfl),VJ g,List.take_append_drop]
def J8(P:a1)(g:a0)(fi ca:List PV)(h:List (List PV))(d:Nat->al):Prop:=
 ∀(b k:Nat)(c f:Nat->al)(H':al),k<=h.length->(∀i,i<=k->eA (c i) (c i)/\aF (aL (c i)) (.map b))->
  (∀i a,i<k->h[i]?=some a->gz P b (c i++d i) (a.map .p) (f i) (.p (.bool true))/\(c i++d i).length<=(f i).length/\(∀j,j<(c i++d i).length->(f i)[j]?=some .hole->(c i++d i)[j]?=some .hole)/\
   (c (i+1)).take (c 0).length=(f i).take (c 0).length/\ji (c (i+1)) (f i) (c (i+1)))->
  (k=h.length/\H'=c k\/∃a e,h[k]?=some a/\gz P b (c k++d k) (a.map .p) e (.p (.bool false))/\(c k++d k).length<=e.length/\(∀j,j<(c k++d k).length->e[j]?=some .hole->(c k++d k)[j]?=some .hole)/\
   H'.take (c 0).length=e.take (c 0).length/\ji H' e H'/\eA H' H')->
  dE P g (c 0) (fi.map .p++[.map b]++ca.map .p) H' (.p (.aC []))
theorem rfd{f:ay}{n:Array Tmp}{a c:Code}{Q:bF->St->Prop}{env:Env}{heap:al}{q:Cx}{g:a0}{fi ca:List PV}{r:List (List PV)}{h:Nat->al}(aO:J8 P g fi ca r h)(hf:ev env f= .p (.func g fi ca))(hq:q.2<=heap.length)
 (X Y:fk->Nat->al)(k:Nat)(hk:k<=r.length)(u:∀L,X L 0=heap++[.loop L])
 (hx:∀L,L=⟨.ready,none,q.1,n.toList,a,c,env⟩->∀i,i<=k->(X L i)[heap.length]?=some (.loop L)/\jE (X L i) env/\(jE (X L i) env->(∀x,aF (aL (X L i)) (aQ L.env x))->eA (X L i) (X L i)))
 (w:∀L,L=⟨.ready,none,q.1,n.toList,a,c,env⟩->∀i x,i<k->r[i]?=some x->gz P heap.length (X L i++h i) (x.map .p) (Y L i) (.p (.bool true))/\(X L i++h i).length<=(Y L i).length/\(∀j,j<(X L i++h i).length->(Y L i)[j]?=some .hole->(X L i++h i)[j]?=some .hole)/\
  (X L (i+1)).take (heap.length+1)=(Y L i).take (heap.length+1)/\ji (X L (i+1)) (Y L i) (X L (i+1)))
 (G:∀L,L=⟨.ready,none,q.1,n.toList,a,c,env⟩->(k=r.length/\Q .normal ⟨env,(X L k).set heap.length (.loop L.xh)⟩)\/
  ∃x j l b,r[k]?=some x/\b[heap.length]?=some (.loop (L.dn j))/\gz P heap.length (X L k++h k) (x.map .p) l (.p (.bool false))/\(X L k++h k).length<=l.length/\(∀i,i<(X L k++h k).length->l[i]?=some .hole->(X L k++h k)[i]?=some .hole)/\
  b.take (heap.length+1)=l.take (heap.length+1)/\ji b l b/\eA b b/\lJ Q (some j) ⟨env,b.set heap.length (.loop (L.dn j).xh)⟩):
 fT P ah q (.rangeFunc f n a c) Q ⟨env,heap⟩:=by
 obtain⟨L,d⟩:∃L:fk,L=⟨.ready,none,q.1,n.toList,a,c,env⟩:=⟨_,rfl⟩
 have t:=aO heap.length k (X L) (Y L);refine⟨hq,?_⟩;show kV P (ev env f) heap.length (heap++[.loop ⟨.ready,none,q.1,n.toList,a,c,env⟩]) (jD heap.length env Q);rw[hf];simp only[kV];rw[<-d,<-u L];have y:(X L 0).length=heap.length+1:=by rw[u L];simp
 have v:∀i,i<=k->eA (X L i) (X L i)/\aF (aL (X L i)) (.map heap.length):=by
  intro i hi;obtain⟨o,m,s⟩:=hx L d i hi;have e5:L.env=env:=by rw[d]
  refine⟨s m (by rw[e5];exact m.get),?_⟩;simp only[aF,aL,o];exact⟨_,rfl,by simp[Obj.has]⟩
 rw[y]at t;rcases G L d with⟨o,m⟩|⟨x,j,l,b,o,m,s,z,A,B,C,D,E⟩
 ·refine⟨_,_,t (X L k) hk v (w L d) (.inl ⟨o,rfl⟩),?_⟩;have F:=(hx L d k (dz k)).1;simp only[jD,F];refine⟨by rw[d];simp,?_⟩;have:L.pending=none:=by rw[d]
  simp only[this,lJ];have e:L.xh={L with st:=.exhausted}:=rfl;rw[this]at e;rw[e]at m;exact m
 ·refine⟨_,_,t b hk v (w L d) (.inr ⟨x,l,o,s,z,A,B,C,D⟩),?_⟩;simp only[jD,m];exact⟨by simp[fk.dn],E⟩
theorem Vp{H J:al}{x:Nat×Nat}(h:aL H x):aL (H++J) x:=by
 obtain⟨o,a,b⟩:=h;exact⟨o,by rw[List.getElem?_append_left (bf.1 a).1];exact a,b⟩
theorem eA.up{S T:al}(a:∀x,aL S x->aL T x):∀{h:al},eA S h->eA T h
 |[],_=>trivial
 |_::_,h=>⟨Obj.CE a h.1,eA.up a h.2⟩
theorem eA.app{H J:al}(h:eA H H)(a:eA (H++J) J):eA (H++J) (H++J):=by
 rw[G6];exact⟨h.up fun _=>Vp,a⟩
theorem aRb{a:Array Oper}{b:List Touch}{i n:Nat}{e:aZ}(h:jL a b=true)(c:b.all (fun u=>reach a a.size u.i i)=true):jL a (ij i n e b)=true:=by
 rw[ij]
 split
 ·exact h
 ·rw[jL,h,Bool.and_true,db];intro u d;rw[db]at c;rw[show(jd i n e).i=i from rfl,c u d,Bool.or_true]
theorem yk{b:Nat}{H c:al}{args:List PV}{as:List AV}{v:PV}{a:Array Oper}{r:List Oper}{i:Nat}{d:List Touch}{K:St->Prop}{dst:Option Tmp}{env:Env}(h:gz P b H (args.map .p) c (.p v))(has:as=args.map .p)(l:H.length<=c.length)(hr:eA H H)(hh:∀i,i<H.length->c[i]?=some .hole->H[i]?=some .hole)
 (g:jL a d=true)(j:d.all (fun u=>reach a a.size u.i i)=true)(hk:∀f,AG a f=true->rI P ah a r (i+1) f K ⟨put dst (.p v) env,c⟩):AU P H (DG P ah a r i d K dst ⟨env,H⟩) (.map b) as:=by
 refine yg h has l hr hh fun e k=>?_;show rI P ah a r (i+1) (ij i H.length e d) K (aZ.app e dst ⟨env,H⟩);rw[k];exact hk _ (aRb g j)
end
end Go.ag
