import Derived.Test.YtdjojlnnobkliaaGreatDoorSThB
/- Parts of a proof. -/
set_option linter.unusedSimpArgs false
set_option linter.unusedVariables false
set_option linter.unusedSectionVars false
open BitVec renaming ofInt->ao
open Bool renaming cond_eq_ite->ap, and_eq_true->av, false_eq_true->ax
open Go renaming Operand->ay, TypeId->aT, FuncId->a3, Program->a4, ResultVar->a5, Value->a6, World->a7, IntKind->a8, BinOp->a9
open Int renaming natCast_nonneg->bb, ofNat_eq_natCast->be, toNat_natCast->bi
open List renaming getElem?_eq_getElem->bl, getElem?_eq_some_iff->bo, mem_iff_getElem->bp, range->bv, replicate->bI, mem_cons->bV, mem_map->bW, map_id->b2, map_cons->b3, nodup_range->b4, getElem?_take->b5, isEmpty_cons->cb, length_take->cc, getElem_zip->ce, of_mem_zip->ck, getElem?_replicate->cx, getElem?_eq_none->cy, mem_of_getElem?->c6, mem_map_of_mem->c9, mem_range'_1->da, ext_getElem?->db, map_fst_zip->dg, getElem_mem->dk, all_eq_true->dl, nodup_cons->dp, mem_append->dq, map_append->dz, nodup_nil->ea, rec->eb
open Nat renaming ble->ec, beq->ed, le_refl->ee, ble_eq_true_of_le->ei, beq_refl->ej, sub_self->em, pow_succ->en, mod_lt->eo
open Option renaming ite_none_right_eq_some->eq
open Option.some renaming injEq->ew
open Prod.mk renaming injEq->e6
namespace Go.aq
set_option linter.unusedSectionVars false
variable[Gl]
section
variable{P:a4}{ag:a3->Bool}
def sE:jG->jG->Bool
 | .leaf,.leaf=>true
 | .agg u,.agg v=>ed u v
 |_,_=>false
theorem iU{a b:jG}(h:sE a b=true):a=b/\b≠.bad:=by
 cases a<;>cases b<;>simp_all [sE]
def kE:AK->AK->Bool
 | .exact,.exact| .grow,.grow| .frozen,.frozen| .bytes,.bytes=>true
 |_,_=>false
def xe:AK->Bool
 | .frozen=>false
 |_=>true
theorem DZ{k:AK}(h:xe k=true):k≠.frozen:=by cases k<;>simp_all [xe]
def oV(k:AK)(a:List AV):Bool:=match k.gr,a with
 |true,[]=>false
 |_,_=>true
theorem wv{k:AK}{a:List AV}(h:oV k a=true):¬(k.gr=true/\a=[]):=by
 rintro⟨b,rfl⟩;simp[oV,b]at h
theorem dv{a b:Nat}(h:ed a b=true):a=b:=Nat.eq_of_beq_eq_true h
theorem c7{a b:Nat}(h:ec a b=true):a<=b:=Nat.le_of_ble_eq_true h
def QE:a8->a8->Bool:=fun a b=>decide (a=b)
def wx(P:a4)(l:List Nat):List (Nat×AV)->Bool
 |[]=>true
 |(i,v)::r=>(match l[i]? with
  |some n=>ed (bG P (aa v)) n&&(match aa v with
   | .bad=>false
   |_=>true)
  |none=>false)&&wx P l r
theorem Cu{l:List Nat}:∀{r:List (Nat×AV)},wx P l r=true->mf P l r
 |[],_=>trivial
 |(i,v)::r,h=>by
  simp only[wx,av]at h;refine⟨?_,Cu h.2⟩;have a:=h.1
  split at a
  ·rename_i n c;simp only[av]at a;refine⟨n,c,dv a.1,fun b=>?_⟩;rw[b]at a;simp at a
  ·simp at a
def pZ(P:a4)(sz:Nat):List AV->Bool
 |[]=>true
 |v::r=>(match aa v with
  | .bad=>false
  |s=>ed (bG P s) sz)&&pZ P sz r
theorem tW{sz:Nat}:∀{r:List AV},pZ P sz r=true->fa P sz r
 |[],_=>trivial
 |v::r,h=>by
  simp only[pZ,av]at h;refine⟨?_,tW h.2⟩;have a:=h.1
  split at a
  ·simp at a
  ·rename_i b;exact⟨b,dv a⟩
def EP(P:a4)(T:aT)(H:aj)(a:AV):Option aY:=
 match a with
 | .ptr b path=>match H[b]? with
  |some (.box fz t)=>match eX t path with
   |some s=>bif sE (kindOf P T) (aa s)then some {v:=s,al:=[(b,.box fz t)]}else none
   |none=>none
  |_=>none
 | .cd b aC ai i path=>match H[b]? with
  |some (.arr k d c es)=>bif ed aC d&&ed ai c then match es[i]? with
   |some x=>match eX x path with
    |some s=>bif sE (kindOf P T) (aa s)then some {v:=s,al:=[(b,.arr k d c es)]}else none
    |none=>none
   |none=>none
   else none
  |_=>none
 | .p (.cr t)=>bif sE (kindOf P T) (aL t)then some {v:=.p t}else none
 |_=>none
theorem Ym{T:aT}{H:aj}{a:AV}{e:aY}{K:aY->Prop}(h:EP P T H a=some e)(hk:K e):oF P T H a K:=by
 unfold EP at h;unfold oF
 split at h
 ·split at h
  ·split at h
   ·rename_i hs;simp only[ap,eq,ew]at h;rename_i c _ _;obtain⟨b,rfl⟩:=h;simp only[c,hs];exact⟨(iU b).1,hk⟩
   ·simp at h
  ·simp at h
 ·split at h
  ·rename_i c;simp only[ap,eq,av]at h;obtain⟨⟨b,d⟩,h⟩:=h
   split at h
   ·rename_i hx
    split at h
    ·rename_i hs;simp only[eq,ew]at h;obtain⟨f,rfl⟩:=h;obtain⟨hi,rfl⟩:=bo.1 hx;simp only[c];refine⟨dv b,dv d,hi,?_⟩;simp only[hs];exact⟨(iU f).1,hk⟩
    ·simp at h
   ·simp at h
  ·simp at h
 ·simp only[ap,eq,ew]at h;obtain⟨b,rfl⟩:=h;exact⟨(iU b).1,hk⟩
 ·simp at h
def DP(P:a4)(T:aT)(H:aj)(a x:AV):Option aY:=
 bif sE (kindOf P T) (aa x)then match a with
 | .ptr b path=>match H[b]? with
  |some (.box false t)=>match eX t path,ga t path x with
   |some s,some d=>bif sE (aa s) (aa x)then some {v:=.p (.aE []),al:=[(b,.box false t)],aK:=[(b,.box false d)]}else none
   |_,_=>none
  |_=>none
 | .cd b aC ai i path=>match H[b]? with
  |some (.arr k e c es)=>bif ed aC e&&(ed ai c&&xe k)then match es[i]? with
   |some y=>match eX y path,ga y path x with
    |some s,some d=>bif sE (aa s) (aa x)then some {v:=.p (.aE []),al:=[(b,.arr k e c es)],aK:=[(b,.arr k e c (es.set i d))]}else none
    |_,_=>none
   |none=>none
   else none
  |_=>none
 |_=>none
 else none
theorem Ww{T:aT}{H:aj}{a x:AV}{e:aY}{K:aY->Prop}(h:DP P T H a x=some e)(hk:K e):nZ P T H a x K:=by
 unfold DP at h;unfold nZ;simp only[ap,eq]at h;obtain⟨f,h⟩:=h;refine⟨(iU f).1,(iU f).2,?_⟩
 split at h
 ·split at h
  ·rename_i c
   split at h
   ·rename_i hs d;simp only[eq,ew]at h;obtain⟨b,rfl⟩:=h;simp only[c,hs,d];exact⟨(iU b).1,hk⟩
   ·simp at h
  ·simp at h
 ·split at h
  ·rename_i c;simp only[eq,av]at h;obtain⟨⟨b,g,i⟩,h⟩:=h
   split at h
   ·rename_i k
    split at h
    ·rename_i hs d;simp only[eq,ew]at h;obtain⟨j,rfl⟩:=h;obtain⟨hi,rfl⟩:=bo.1 k;simp only[c];refine⟨dv b,dv g,DZ i,hi,?_⟩;simp only[hs,d];exact⟨(iU j).1,hk⟩
    ·simp at h
   ·simp at h
  ·simp at h
 ·simp at h
def EB(op:a9)(k:a8)(a b:Int):Option PV:=
 match op with
 | .add=>some (.int k (k.wrap (a+b)))
 | .sub=>some (.int k (k.wrap (a-b)))
 | .mul=>some (.int k (k.wrap (a*b)))
 | .quo=>match b with
  | .ofNat 0=>none
  |b=>some (.int k (k.wrap (a.tdiv b)))
 | .rem=>match b with
  | .ofNat 0=>none
  |b=>some (.int k (a.tmod b))
 | .and=>some (.int k (k.wrap (ao k.bits a&&&ao k.bits b).toNat))
 | .or=>some (.int k (k.wrap (ao k.bits a|||ao k.bits b).toNat))
 | .xor=>some (.int k (k.wrap (ao k.bits a^^^ao k.bits b).toNat))
 | .andNot=>some (.int k (k.wrap (ao k.bits a&&&~~~ao k.bits b).toNat))
 | .eql=>some (.bool (a==b))
 | .neq=>some (.bool (a !=b))
 | .lss=>some (.bool (decide (a<b)))
 | .leq=>some (.bool (decide (a<=b)))
 | .gtr=>some (.bool (decide (a>b)))
 | .geq=>some (.bool (decide (a>=b)))
 | .shl=>match b with
  | .ofNat _=>some (.int k (k.wrap (a*2^(min b.toNat k.bits))))
  |_=>none
 | .shr=>match b with
  | .ofNat _=>some (.int k (a.fdiv (2^(min b.toNat k.bits))))
  |_=>none
theorem azq{op:a9}{k:a8}{a b:Int}{v:PV}{K:PV->Prop}(h:EB op k a b=some v)(hk:K v):pX op k a b K:=by
 cases op<;>simp only[EB]at h<;>simp only[pX]
 case quo|rem=>
  split at h
  ·simp at h
  ·rename_i d;simp only[ew]at h;subst h;exact⟨fun c=>d (by rw[c];rfl),hk⟩
 case shl|shr=>
  split at h
  ·simp only[ew]at h;subst h;exact⟨bb _,hk⟩
  ·simp at h
 all_goals (simp only[ew]at h;subst h;exact hk)
def Em(P:a4)(op:a9)(T:aT)(c:Bool)(H:aj)(x y:AV):Option PV:=
 match x,y with
 | .p (.int k a),.p (.int d b)=>bif QE k d||(match op with
  | .shl| .shr=>true
  |_=>false)then EB op k a b else none
 | .p (.str a),.p (.str b)=>match op with
  | .add=>bif ec (a.length+b.length) 9223372036854775807 then some (.str (a++b))else none
  | .eql=>some (.bool (a==b))
  | .neq=>some (.bool (!(a==b)))
  | .lss=>some (.bool (jo a b))
  | .leq=>some (.bool (jo a b||a==b))
  | .gtr=>some (.bool (!(jo a b||a==b)))
  | .geq=>some (.bool (!(jo a b)))
  |_=>none
 | .p (.bool a),.p (.bool b)=>bif rB P T then match op with
  | .eql=>some (.bool (a==b))
  | .neq=>some (.bool (!(a==b)))
  |_=>none
  else none
 | .p (.st u fs),.p (.st u' gs)=>bif ux P T then match iX P 9 T (.st u fs) (.st u' gs),op with
  |some r,.eql=>some (.bool r)
  |some r,.neq=>some (.bool !r)
  |_,_=>none
  else none
 |x,y=>match dC P T c y with
  |some k=>match cU H k x,op with
   |some r,.eql=>some (.bool r)
   |some r,.neq=>some (.bool !r)
   |_,_=>none
  |none=>none
theorem Zm{op:a9}{T:aT}{c:Bool}{H:aj}{x y:AV}{v:PV}{K:PV->Prop}(h:Em P op T c H x y=some v)(hk:K v):kT P op T c H x y K:=by
 unfold Em at h;unfold kT
 split at h
 ·simp only[ap,eq,Bool.or_eq_true,QE,decide_eq_true_eq]at h;refine⟨?_,azq h.2 hk⟩;rcases h.1 with b|b
  ·exact .inl b
  ·cases op<;>simp at b<;>simp
 ·split at h<;>simp only[pW]
  ·simp only[ap,eq,ew]at h;obtain⟨b,rfl⟩:=h;exact⟨by have:=c7 b;omega,hk⟩
  ·simp only[ew]at h;subst h;exact hk
  ·simp only[ew]at h;subst h;exact hk
  ·simp only[ew]at h;subst h;exact hk
  ·simp only[ew]at h;subst h;exact hk
  ·simp only[ew]at h;subst h;exact hk
  ·simp only[ew]at h;subst h;exact hk
  ·simp at h
 ·simp only[ap,eq]at h;refine⟨h.1,?_⟩;have a:=h.2
  split at a
  ·simp only[ew]at a;subst a;exact hk
  ·simp only[ew]at a;subst a;exact hk
  ·simp at a
 ·simp only[ap,eq]at h;refine⟨h.1,?_⟩;have a:=h.2
  split at a
  ·rename_i d;simp only[ew]at a;subst a;simp only[d];exact hk
  ·rename_i d;simp only[ew]at a;subst a;simp only[d];exact hk
  ·simp at a
 ·split at h
  case h_2=>simp at h
  rename_i k f;show kT P op T c H x y _;rw[KM f];obtain⟨r,e,d⟩:∃r,cU H k x=some r/\((op=.eql/\v=.bool r)\/(op=.neq/\v=.bool !r)):=by
   revert h;generalize cU H k x=q;intro h;cases q with
   |none=>simp at h
   |some r=>cases op<;>simp at h<;>exact⟨r,rfl,by simp[h]⟩
  rw[e];rcases d with⟨rfl,rfl⟩|⟨rfl,rfl⟩<;>exact hk
def Cl(P:a4)(T:aT)(a:AV)(f:Nat):Option aY:=
 match fj P T with
 |some (u,n)=>bif ec (f+1) n then match a with
  | .ptr b path=>some {v:=.ptr b (path++[(u,f)])}
  | .cd b aC ai i path=>some {v:=.cd b aC ai i (path++[(u,f)])}
  | .p (.cr t)=>bif sE (aL t) (.agg u)then match(bY t)[f]? with
   |some g=>some {v:=.p (.cr g)}
   |none=>none
   else none
  |_=>none
  else none
 |_=>none
theorem Ua{T:aT}{a:AV}{f:Nat}{e:aY}{K:aY->Prop}(h:Cl P T a f=some e)(hk:K e):nQ P T a f K:=by
 unfold Cl at h;unfold nQ
 split at h
 ·rename_i hs;simp only[ap,eq]at h;obtain⟨b,h⟩:=h;simp only[hs];refine⟨by have:=c7 b;omega,?_⟩
  split at h
  ·simp only[ew]at h;subst h;exact hk
  ·simp only[ew]at h;subst h;exact hk
  ·simp only[eq]at h;obtain⟨c,h⟩:=h
   split at h
   ·rename_i d;simp only[ew]at h;subst h;simp only[d];exact⟨(iU c).1,hk⟩
   ·simp at h
  ·simp at h
 ·simp at h
def oE(a:Option Nat)(b:Nat):Bool:=match a with
 |some x=>ed x b
 |none=>false
theorem wP{a:Option Nat}{b:Nat}(h:oE a b=true):a=some b:=by
 unfold oE at h;split at h
 ·rw[dv h]
 ·simp at h
def Ci(P:a4)(T:aT)(H:aj)(x i:AV):Option aY:=
 match i with
 | .p (.int _ (.ofNat i))=>match x with
  | .p (.cT _ es)=>match es[i]? with
   |some y=>bif oE (cJ P T) (bG P (aL y))then some {v:=.p (.cr y)}else none
   |none=>none
  | .p (.seq es)=>match es[i]? with
   |some y=>bif oE (cJ P T) (bG P (aL y))then some {v:=.p (.cr y)}else none
   |none=>none
  | .sl b aC ai off len=>bif oE (cJ P T) ai&&ec (i+1) len then match H[b]? with
   |some (.arr k c a es)=>bif ed aC c&&(ed ai a&&oV k es)then some {v:=.cd b aC ai (off+i) [],al:=[(b,.arr k c a es)]}else none
   |_=>none
   else none
  | .ptr b path=>match gP P T with
   |some (u,n)=>bif ec (i+1) n then some {v:=.ptr b (path++[(u,i)])}else none
   |_=>none
  | .cd b aC ai j path=>match gP P T with
   |some (u,n)=>bif ec (i+1) n then some {v:=.cd b aC ai j (path++[(u,i)])}else none
   |_=>none
  | .p (.cr t)=>match gP P T with
   |some (u,n)=>bif sE (aL t) (.agg u)&&ec (i+1) n then match(bY t)[i]? with
    |some g=>some {v:=.p (.cr g)}
    |none=>none
    else none
   |_=>none
  |_=>none
 |_=>none
theorem Um{T:aT}{H:aj}{x i:AV}{e:aY}{K:aY->Prop}(h:Ci P T H x i=some e)(hk:K e):nP P T H x i K:=by
 unfold Ci at h;unfold nP
 split at h
 case h_2=>simp at h
 rename_i i;refine⟨bb _,?_⟩;simp only[be,bi]
 split at h
 ·split at h
  ·rename_i y d;simp only[ap,eq,ew]at h;obtain⟨a,rfl⟩:=h;obtain⟨hi,rfl⟩:=bo.1 d;exact⟨hi,wP a,hk⟩
  ·simp at h
 ·split at h
  ·rename_i y d;simp only[ap,eq,ew]at h;obtain⟨a,rfl⟩:=h;obtain⟨hi,rfl⟩:=bo.1 d;exact⟨hi,wP a,hk⟩
  ·simp at h
 ·simp only[ap,eq,av]at h;obtain⟨⟨a,c⟩,h⟩:=h;refine⟨wP a,by have:=c7 c;omega,?_⟩
  split at h
  ·rename_i k;simp only[eq,ew]at h;obtain⟨⟨f,g,j⟩,rfl⟩:=h;simp only[k];exact⟨dv f,dv g,wv j,hk⟩
  ·simp at h
 ·split at h
  ·rename_i b;simp only[ap,eq,ew]at h;obtain⟨a,rfl⟩:=h;simp only[b];exact⟨by have:=c7 a;omega,hk⟩
  ·simp at h
 ·split at h
  ·rename_i b;simp only[ap,eq,ew]at h;obtain⟨a,rfl⟩:=h;simp only[b];exact⟨by have:=c7 a;omega,hk⟩
  ·simp at h
 ·split at h
  ·rename_i b;simp only[ap,eq,av]at h;obtain⟨⟨a,c⟩,h⟩:=h
   split at h
   ·rename_i l;simp only[ew]at h;subst h;simp only[b,l];exact⟨(iU a).1,by have:=c7 c;omega,hk⟩
   ·simp at h
  ·simp at h
 ·simp at h
def DF(P:a4)(T X:aT)(H:aj)(s x:AV):Option aY:=
 match cJ P T,gY H x with
 |some sz,some xs=>bif iV P X&&((cB P (ek P T)).isSome&&pZ P sz xs)then
  match s with
  | .p .aO=>match xs with
   |[]=>some {v:=s,al:=dD H x}
   |y::r=>bif ec (y::r).length cV then some {v:=.sl H.length 0 sz 0 (y::r).length,al:=dD H x,aX:=[.arr (gk P T) 0 sz (y::r)]}else none
  | .p (.cT full es)=>bif pZ P sz (es.map .p)then match xs with
   |[]=>some {v:=s,al:=dD H x}
   |y::r=>bif full&&ec (es.length+(y::r).length) cV then
    some {v:=.sl H.length 0 sz 0 (es.length+(y::r).length),al:=dD H x,aX:=[.arr (gk P T) 0 sz (es.map .p++(y::r))]}else none
   else none
  | .sl b aC ai off len=>match H[b]? with
   |some (.arr k c a es)=>bif ed aC c&&(ed ai a&&(ed ai sz&&ec (off+len) es.length))then
    match xs with
    |[]=>some {v:=s,al:=(b,.arr k c a es)::dD H x}
    |y::r=>bif ec (es.length+(y::r).length) cV then match k with
     | .frozen=>none
     | .exact=>bif ec (off+len+(y::r).length) es.length then
      some {v:=.sl b aC ai off (len+(y::r).length),al:=(b,.arr .exact c a es)::dD H x,aK:=[(b,.arr .exact aC ai (es.take (off+len)++(y::r)++es.drop (off+len+(y::r).length)))]}
      else some {v:=.sl H.length 0 sz 0 (len+(y::r).length),al:=(b,.arr .exact c a es)::dD H x,aX:=[.arr (gk P T) 0 sz ((es.drop off).take len++(y::r))]}
     | .grow=>bif ed off 0 then some {v:=.sl b (aC+1) ai 0 (len+(y::r).length),al:=(b,.arr .grow c a es)::dD H x,aK:=[(b,.arr .grow (aC+1) ai (es.take len++(y::r)))]}else none
     | .bytes=>bif ed off 0&&ed (ek P T) Gl.u8 then some {v:=.sl b (aC+1) ai 0 (len+(y::r).length),al:=(b,.arr .bytes c a es)::dD H x,aK:=[(b,.arr .bytes (aC+1) ai (es.take len++(y::r)))]}else none
     else none
    else none
   |_=>none
  |_=>none
  else none
 |_,_=>none
theorem S7{T X:aT}{H:aj}{s x:AV}{e:aY}{K:aY->Prop}(h:DF P T X H s x=some e)(hk:K e):nS P T X H s x K:=by
 unfold DF at h;unfold nS
 split at h
 case h_2=>simp at h
 rename_i sz r n p;simp only[ap,eq,av]at h;obtain⟨⟨g,j,k⟩,h⟩:=h;simp only[n,p];refine⟨g,j,tW k,?_⟩
 split at h
 ·split at h
  ·simp only[ew]at h;subst h;simpa using hk
  ·simp only[eq,ew]at h;obtain⟨a,rfl⟩:=h;simp only[cb,ax,if_false];exact⟨c7 a,hk⟩
 ·simp only[eq]at h;obtain⟨a,h⟩:=h;refine⟨tW a,?_⟩
  split at h
  ·simp only[ew]at h;subst h;simpa using hk
  ·simp only[eq,ew]at h;obtain⟨⟨b,c⟩,rfl⟩:=h;simp only[cb,ax,if_false];exact⟨b,c7 c,hk⟩
 ·split at h
  case h_2=>simp at h
  rename_i o;simp only[eq]at h;obtain⟨⟨a,b,c,l⟩,h⟩:=h;simp only[o];refine⟨dv a,dv b,dv c,c7 l,?_⟩
  split at h
  ·simp only[ew]at h;subst h;simpa using hk
  ·simp only[eq]at h;obtain⟨m,h⟩:=h;simp only[cb,ax,if_false];refine⟨c7 m,?_⟩
   split at h
   ·simp at h
   ·split at h
    ·rename_i f;simp only[ew]at h;subst h;simp only[c7 f,if_true];exact hk
    ·rename_i f;simp only[ew]at h;subst h;rw[if_neg (fun q=>f (ei q))];exact hk
   ·simp only[eq,ew]at h;obtain⟨d,rfl⟩:=h;exact⟨dv d,(fun h=>by cases h),hk⟩
   ·simp only[eq,ew]at h;obtain⟨⟨d,i⟩,rfl⟩:=h;exact⟨dv d,fun _=>dv i,hk⟩
 ·simp at h
end
section
variable{P:a4}{ag:a3->Bool}
def jR(x:Option AV)(d:Nat):Option Nat:=
 match x with
 |none=>some d
 |some (.p (.int _ (.ofNat i)))=>some i
 |_=>none
theorem kL{x:Option AV}{d n:Nat}{K:Nat->Prop}(h:jR x d=some n)(hk:K n):gO x d K:=by
 unfold jR at h;unfold gO
 split at h
 ·simp only[ew]at h;subst h;exact hk
 ·simp only[ew]at h;subst h;exact⟨bb _,hk⟩
 ·simp at h
def DR(P:a4)(T:aT)(H:aj)(x:AV)(lo hi e:Option AV):Option aY:=
 match e with
 |some _=>none
 |none=>match x with
  | .p (.str s)=>match jR hi s.length,jR lo 0 with
   |some h,some l=>bif iK P T&&(ec h s.length&&ec l h)then some {v:=.p (.str ((s.take h).drop l))}else none
   |_,_=>none
  | .p .aO=>match jR hi 0,jR lo 0 with
   |some h,some l=>bif (cJ P T).isSome&&(ec h 0&&ec l h)then some {v:=x}else none
   |_,_=>none
  | .p (.cT full es)=>match jR hi es.length,jR lo 0,cJ P T with
   |some h,some l,some sz=>bif ec h es.length&&(ec l h&&pZ P sz (es.map .p))then some {v:=.p (.cT (full&&h==es.length) ((es.take h).drop l))}else none
   |_,_,_=>none
  | .p (.seq es)=>match jR hi es.length,jR lo 0,cJ P T with
   |some h,some l,some sz=>bif ec h es.length&&(ec l h&&pZ P sz (es.map .p))then some {v:=.p (.seq ((es.take h).drop l))}else none
   |_,_,_=>none
  | .sl b aC ai off len=>match H[b]? with
   |some (.arr k c a es)=>match jR hi len,jR lo 0 with
    |some h,some l=>bif ed aC c&&(ed ai a&&(oE (cJ P T) ai&&(oV k es&&(ec (off+len) es.length&&(ec (off+h) es.length&&ec l h)))))then
     match l with
     |0=>some {v:=.sl b aC ai off h,al:=[(b,.arr k c a es)]}
     |d+1=>bif ed (d+1) h then some {v:=.p (.cT false []),al:=[(b,.arr k c a es)]}else some {v:=.sl b aC ai (off+(d+1)) (h-(d+1)),al:=[(b,.arr k c a es)]}
     else none
    |_,_=>none
   |_=>none
  |_=>none
theorem WA{T:aT}{H:aj}{x:AV}{lo hi j:Option AV}{e:aY}{K:aY->Prop}(h:DR P T H x lo hi j=some e)(hk:K e):n9 P T H x lo hi j K:=by
 unfold DR at h;unfold n9
 split at h
 ·simp at h
 refine⟨rfl,?_⟩
 split at h
 ·split at h
  case h_2=>simp at h
  rename_i a b;simp only[ap,eq,av,ew]at h;obtain⟨⟨c,d,f⟩,rfl⟩:=h;exact⟨c,kL a (kL b ⟨c7 d,c7 f,hk⟩)⟩
 ·split at h
  case h_2=>simp at h
  rename_i a b;simp only[ap,eq,av,ew]at h;obtain⟨⟨c,d,f⟩,rfl⟩:=h;exact⟨c,kL a (kL b ⟨c7 d,c7 f,hk⟩)⟩
 ·split at h
  case h_2=>simp at h
  rename_i a b c;simp only[ap,eq,av,ew]at h;obtain⟨⟨d,f,g⟩,rfl⟩:=h;refine kL a (kL b ⟨c7 d,c7 f,?_⟩);simp only[c];exact⟨tW g,hk⟩
 ·split at h
  case h_2=>simp at h
  rename_i a b c;simp only[ap,eq,av,ew]at h;obtain⟨⟨d,f,g⟩,rfl⟩:=h;refine kL a (kL b ⟨c7 d,c7 f,?_⟩);simp only[c];exact⟨tW g,hk⟩
 ·split at h
  case h_2=>simp at h
  rename_i n
  split at h
  case h_2=>simp at h
  rename_i a b;simp only[ap,eq,av]at h;obtain⟨⟨c,d,f,g,k,l,m⟩,h⟩:=h;simp only[n];refine⟨dv c,dv d,wP f,wv g,c7 k,kL a (kL b ⟨c7 l,c7 m,?_⟩)⟩
  split at h
  ·simp only[ew]at h;subst h;simpa using hk
  ·rw[if_neg o_]
   split at h
   ·rename_i i;simp only[ew]at h;subst h;rw[if_pos (dv i)];exact hk
   ·rename_i i;simp only[ew]at h;subst h;rw[if_neg (fun e=>i (by rw[<-e];exact ej _))];exact hk
 ·simp at h
def Db(P:a4)(T:aT)(H:aj)(x:AV)(lo hi:Option AV)(m:AV):Option aY:=
 match x with
 | .sl b aC ai off len=>match H[b]? with
  |some (.arr k c a es)=>match jR hi len,jR lo 0,jR (some m) 0 with
   |some h,some l,some m=>bif ed aC c&&(ed ai a&&((cJ P T).isSome&&(oV k es&&(ec (off+len) es.length&&(hi.isSome&&(ec (off+m) es.length&&(ec h m&&ec l h)))))))then
    some {v:=.p .undef,al:=[(b,.arr k c a es)]}else none
   |_,_,_=>none
  |_=>none
 |_=>none
theorem Wd{T:aT}{H:aj}{x:AV}{lo hi:Option AV}{m:AV}{e:aY}{K:aY->Prop}(h:Db P T H x lo hi m=some e)(hk:K e):q7 P T H x lo hi m K:=by
 unfold Db at h;unfold q7
 split at h
 case h_2=>simp at h
 split at h
 case h_2=>simp at h
 rename_i d
 split at h
 case h_2=>simp at h
 rename_i a b c;simp only[ap,eq,av,ew]at h;obtain⟨⟨g1,g2,g3,g4,g5,g6,g7,g8,g9⟩,rfl⟩:=h;simp only[d];exact⟨dv g1,dv g2,g3,wv g4,c7 g5,g6,kL a (kL b (kL c ⟨c7 g7,c7 g8,c7 g9,hk⟩))⟩
def Ae(ok:Bool)(z:PV)(r:Option PV):PV:=
 match r with
 |some v=>bif ok then .aE [v,.bool true]else v
 |none=>bif ok then .aE [z,.bool false]else z
def aGq(ok:Bool)(z:PV)(r:Option AV):AV:=
 match r with
 |some v=>bif ok then .aE [v,.p (.bool true)]else v
 |none=>.p (bif ok then .aE [z,.bool false]else z)
def MS(P:a4)(T:aT)(H:aj)(x i:AV)(ok:Bool):Option aY:=
 match jw P T,i with
 |some (a,E),.p key=>match cB P E with
  |some z=>bif eZ P a key then match x with
   | .p .ft=>some {v:=.p (Ae ok z none)}
   | .p (.eg es)=>match fN P a es key with
    |some r=>some {v:=.p (Ae ok z r)}
    |none=>none
   | .map b=>match H[b]? with
    |some (.map fz es)=>match fN P a es key with
     |some r=>some {v:=.p (Ae ok z r),al:=[(b,.map fz es)]}
     |none=>none
    |some (.cZ ks vs)=>bif lG key then match jI P a ks vs key with
     |some r=>some {v:=aGq ok z r,al:=[(b,.cZ ks vs)]}
     |none=>none
     else none
    |_=>none
   |_=>none
   else none
  |none=>none
 |_,_=>none
def AP(P:a4)(c:aT)(b:Nat)(key:PV)(x:AV)(a:Obj):Option aY:=
 match pc a with
 |some (ks,vs)=>bif lG key then match jI P c ks vs key with
  |some none=>some {v:=.p (.aE []),al:=[(b,a)],aK:=[(b,.cZ (ks++[key]) (vs++[x]))]}
  |_=>none
  else none
 |none=>none
theorem Bw{P:a4}{a:aT}{b:Nat}{key:PV}{x:AV}{c:Obj}{e:aY}{K:aY->Prop}(h:AP P a b key x c=some e)(hk:K e):mO P a b key x c K:=by
 unfold AP at h;unfold mO
 split at h
 ·rename_i ks vs f;simp only[ap,eq]at h;obtain⟨d,h⟩:=h
  split at h
  ·rename_i g;simp only[ew]at h;subst h;simp only[f];exact⟨d,g,hk⟩
  ·cases h
 ·cases h
def MP(P:a4)(T:aT)(H:aj)(m k x:AV):Option aY:=
 match jw P T,m,k with
 |some (a,_),.map b,.p key=>bif eZ P a key then match H[b]? with
  |some (.map false es)=>match x with
   | .p v=>match mq P a es key with
    |some _=>some {v:=.p (.aE []),al:=[(b,.map false es)],aK:=[(b,.map false (gh es key v))]}
    |none=>none
   |x=>AP P a b key x (.map false es)
  |some (.cZ ks vs)=>AP P a b key x (.cZ ks vs)
  |_=>none
  else none
 |_,_,_=>none
def Rg(H:aj)(it:AV):Option aY:=
 match it with
 | .ptr b []=>match H[b]? with
  |some (.dw s pos)=>bif ec (pos+1) s.length then
   some {v:=.p (.aE [.bool true,.int .i64 pos,.int .i32 (Utf8.decode (gJ s) pos).1]),al:=[(b,.dw s pos)],aK:=[(b,.dw s (pos+(Utf8.decode (gJ s) pos).2))]}
   else some {v:=.p (.aE [.bool false]),al:=[(b,.dw s pos)]}
  |_=>none
 |_=>none
def LF(P:a4)(H:aj)(b:Builtin)(c:Array aT)(args:List AV):Option aY:=
 match b,args with
 | .len,[x]=>match lenOf H x with
  |some (n,al)=>bif il P (c.getD 0 0) x&&ec 1 c.size then some {v:=.p (.int .i64 n),al}else none
  |none=>none
 | .append,[s,x]=>bif ed c.size 2 then DF P (c.getD 0 0) (c.getD 1 0) H s x else none
 | .min,.p (.int k a)::r=>match mg k false r a with
  |some n=>some {v:=.p (.int k n)}
  |none=>none
 | .max,.p (.int k a)::r=>match mg k true r a with
  |some n=>some {v:=.p (.int k n)}
  |none=>none
 | .copy,[d,x]=>match cJ P (c.getD 0 0),d,gY H x with
  |some sz,.sl b aC ai off len,some xs=>bif ed ai sz&&(pZ P sz xs&&ed c.size 2)then match H[b]? with
   |some (.arr k f e es)=>bif ed aC f&&(ed ai e&&(xe k&&(ec (off+len) es.length&&oV k es)))then
    some {v:=.p (.int .i64 (min xs.length len:Nat)),al:=(b,.arr k f e es)::dD H x,aK:=[(b,.arr k f e (es.take off++xs.take (min xs.length len)++es.drop (off+min xs.length len)))]}
    else none
   |_=>none
   else none
  |_,_,_=>none
 | .cap,[x]=>match Au H x with
  |some (n,al)=>bif il P (c.getD 0 0) x&&ec 1 c.size then some {v:=.p (.int .i64 n),al}else none
  |none=>none
 | .clear,[x]=>match x with
  | .p .aO=>bif il P (c.getD 0 0) x&&ec 1 c.size then some {v:=.p (.aE [])}else none
  | .sl b aC ai off len=>match cJ P (c.getD 0 0),cB P (ek P (c.getD 0 0)),H[b]? with
   |some sz,some z,some (.arr k f e es)=>bif ed aC f&&(ed ai e&&(ed ai sz&&(ed (bG P (aL z)) sz&&(xe k&&(ec (off+len) es.length&&(oV k es&&(ec 1 c.size&&ec 1 len)))))))then
    some {v:=.p (.aE []),al:=[(b,.arr k f e es)],aK:=[(b,.arr k f e (es.take off++bI len (.p z)++es.drop (off+len)))]}else none
   |_,_,_=>none
  |_=>none
 | .unsafeSliceData,[x]=>match x with
  | .p .aO=>some {v:=.p .dL}
  | .sl b aC ai off len=>match H[b]? with
   |some (.arr k f e es)=>bif ed aC f&&ed ai e then
    bif oV k es then(bif ec 1 len&&ec (off+len) es.length then some {v:=.cd b aC ai off [],al:=[(b,.arr k f e es)]}else none)
    else some {v:=.p .dL,al:=[(b,.arr k f e es)]}
    else none
   |_=>none
  |_=>none
 | .unsafeString,[x,.p (.int .i64 (.ofNat n))]=>match x with
  | .p .dL=>bif ed n 0&&ed c.size 2 then some {v:=.p (.str [])}else none
  | .cd b aC ai i []=>match H[b]? with
   |some (.arr .bytes f e es)=>bif ed aC f&&(ed ai e&&(ed ai 1&&(ed i 0&&(ec 1 n&&(ec n es.length&&(ec n 9223372036854775807&&(ed c.size 2&&(oE (ptrTo P (c.getD 0 0)) Gl.u8&&ed (P.cellsOf Gl.u8) 1))))))))then
    match bytesOf (es.take n)with
    |some l=>some {v:=.p (.str l),al:=[(b,.arr .bytes f e es)],aK:=[(b,.dead)]}
    |none=>none
    else none
   |_=>none
  |_=>none
 |_,_=>none
def AZ(P:a4)(ag:a3->Bool)(o:Oper)(ρ:ay->AV)(H:aj):Option aY:=
 match o.op with
 | .move x| .assign x=>some {v:=ρ x}
 | .pick c a b=>match ρ c with
  | .p (.bool t)=>some {v:=bif t then ρ a else ρ b}
  |_=>none
 | .alloc T=>match cB P T with
  |some z=>bif sE (kindOf P T) (aL z)&&jy T (aL z)then some {v:=.ptr H.length [],aX:=[.box false (.p z)]}else none
  |none=>none
 | .box T x=>bif sE (kindOf P T) (aa (ρ x))&&jy T (aa (ρ x))then some {v:=.ptr H.length [],aX:=[.box false (ρ x)]}else none
 | .build T parts=>match kindOf P T,cB P T with
  | .agg u,some z=>match dA P u with
   |some l=>bif sE (aL z) (.agg u)&&wx P l (parts.toList.map fun(i,x)=>(i,ρ x))then some {v:=iw u (iI ((bY z).map .p) (parts.toList.map fun(i,x)=>(i,ρ x)))}else none
   |none=>none
  |_,_=>none
 | .buildSlice T n parts=>match cJ P T,cB P (ek P T)with
  |some sz,some z=>bif ed (bG P (aL z)) sz&&(ec (n*sz) 1000000&&wx P (bI n sz) (parts.toList.map fun(i,x)=>(i,ρ x)))then
   some {v:=.sl H.length 0 sz 0 n,aX:=[.arr .exact 0 sz (iI (bI n (.p z)) (parts.toList.map fun(i,x)=>(i,ρ x)))]}else none
  |_,_=>none
 | .load T a=>EP P T H (ρ a)
 | .store T a x=>DP P T H (ρ a) (ρ x)
 | .binOp op T x y _=>match Em P op T (mE y) H (ρ x) (ρ y)with
  |some v=>some {v:=.p v,al:=dD H (ρ x)}
  |none=>none
 | .unOp op _ x=>match op,ρ x with
  | .not,.p (.bool b)=>some {v:=.p (.bool (!b))}
  | .neg,.p (.int k n)=>some {v:=.p (.int k (k.wrap (0-n)))}
  | .xor,.p (.int k n)=>some {v:=.p (.int k (k.wrap (ao k.bits (if k.signed then -1 else k.max)^^^ao k.bits n).toNat))}
  |_,_=>none
 | .convert S D x=>match P.underlying S,P.underlying D,ρ x with
  |some _,some (.int k),.p (.int _ n)=>some {v:=.p (.int k (k.wrap n))}
  |some _,some .string,.p (.str s)=>some {v:=.p (.str s)}
  |_,_,_=>none
 | .extract t i=>match ρ t with
  | .p (.aE vs)=>match vs[i]? with
   |some v=>some {v:=.p v}
   |none=>none
  | .aE vs=>match vs[i]? with
   |some v=>some {v}
   |none=>none
  |_=>none
 | .fieldAddr T a f=>Cl P T (ρ a) f
 | .indexAddr T x i=>Ci P T H (ρ x) (ρ i)
 | .field T x f=>match kindOf P T,P.underlying T,ρ x with
  | .agg u,some (.struct _),.p t=>match(bY t)[f]?,(jn P u)[f]? with
   |some g,some F=>bif sE (aL t) (.agg u)&&sE (kindOf P F) (aL g)then some {v:=.p g}else none
   |_,_=>none
  |_,_,_=>none
 | .index T x i=>match ρ x,ρ i with
  | .p (.str s),.p (.int _ (.ofNat i))=>match s[i]? with
   |some c=>bif iK P T then some {v:=.p (.int .u8 c)}else none
   |none=>none
  | .p (.st u es),.p (.int _ (.ofNat i))=>match gP P T,(jn P u)[i]?,es[i]? with
   |some (u',n),some F,some g=>bif ed u' u&&(ec (i+1) n&&sE (kindOf P F) (aL g))then some {v:=.p g}else none
   |_,_,_=>none
  |_,_=>none
 | .makeFunc (.func f) fi ca=>bif ag f then match fM H (fi.toList.map ρ),fM H (ca.toList.map ρ)with
   |some (a,[],[]),some (b,al,aK)=>some {v:=.p (.func f a b),al,aK}
   |_,_=>none
  else match eQ (fi.toList.map ρ),eQ (ca.toList.map ρ)with
   |some a,some b=>some {v:=.p (.func f a b)}
   |_,_=>some {v:=.func f (fi.toList.map ρ) (ca.toList.map ρ)}
 | .makeSlice T l c=>match cJ P T,cB P (ek P T),ρ l,ρ c with
  |some sz,some z,.p (.int .i64 (.ofNat l)),.p (.int .i64 (.ofNat c))=>bif ed (bG P (aL z)) sz&&(ed l c&&ec l cV)then
   some {v:=.sl H.length 0 sz 0 l,aX:=[.arr .exact 0 sz (bI l (.p z))]}else none
  |_,_,_,_=>none
 | .slice T x lo hi d=>match d with
  |none=>DR P T H (ρ x) (lo.map ρ) (hi.map ρ) none
  |some m=>Db P T H (ρ x) (lo.map ρ) (hi.map ρ) (ρ m)
 | .makeMap _ none=>some {v:=.map H.length,aX:=[.map false []]}
 | .lookup T x i ok=>MS P T H (ρ x) (ρ i) ok
 | .mapUpdate T m k x| .insert T m k x=>MP P T H (ρ m) (ρ k) (ρ x)
 | .range T x=>match ρ x with
  | .p (.str s)=>bif iK P T then some {v:=.ptr H.length [],aX:=[.dw s 0]}else none
  |_=>none
 | .next it true=>Rg H (ρ it)
 | .nilCheck x=>match ρ x with
  | .ptr _ _| .cd _ _ _ _ _| .p (.cr _)=>some {v:=ρ x}
  |_=>none
 | .call c=>match c.callee with
  | .builtin b=>LF P H b c.argTypes (c.args.toList.map ρ)
  |_=>none
 |_=>none
theorem OS{o:Oper}{ρ:ay->AV}{H:aj}{e:aY}{K:aY->Prop}(h:AZ P ag o ρ H=some e)(hk:K e):fG P ag o ρ H K:=by
 unfold AZ at h;unfold fG;cases ad:o.op<;>simp only[ad]at h<;>simp only
 case move|assign=>simp only[ew]at h;subst h;exact hk
 case pick c a b=>
  split at h
  ·rename_i t hc;simp only[ew]at h;subst h;simp only[hc];cases t<;>exact hk
  ·simp at h
 case alloc T=>
  split at h
  ·rename_i z G;simp only[ap,eq,ew,av]at h;obtain⟨⟨d,j⟩,rfl⟩:=h;simp only[G];exact⟨(iU d).1,(iU d).2,j,hk⟩
  ·simp at h
 case box T x=>
  simp only[ap,eq,ew,av]at h;obtain⟨⟨d,j⟩,rfl⟩:=h;exact⟨(iU d).1,(iU d).2,j,hk⟩
 case build T parts=>
  split at h
  ·rename_i u z ae G
   split at h
   ·rename_i l E;simp only[ap,eq,ew,av]at h;obtain⟨⟨d,j⟩,rfl⟩:=h;simp only[ae,G,E];exact⟨(iU d).1,Cu j,hk⟩
   ·simp at h
  ·simp at h
 case buildSlice T n parts=>
  split at h
  ·rename_i sz z J G;simp only[ap,eq,ew,av]at h;obtain⟨⟨d,j,q⟩,rfl⟩:=h;simp only[J,G];exact⟨dv d,c7 j,Cu q,hk⟩
  ·simp at h
 case load T a=>exact Ym h hk
 case store T a x=>exact Ww h hk
 case binOp op T x y ah=>
  split at h
  ·rename_i v M;simp only[ew]at h;subst h;exact Zm (K:=fun v=>K {v:=.p v,al:=dD H (ρ x)}) M hk
  ·simp at h
 case unOp op T x=>
  split at h
  all_goals first
   |(rename_i hx;simp only[ew]at h;subst h;simp only[hx];exact hk)
   |simp at h
 case convert S D x=>
  split at h
  ·rename_i d j q;simp only[ew]at h;subst h;simp only[d,j,q];exact hk
  ·rename_i d j q;simp only[ew]at h;subst h;simp only[d,j,q];exact hk
  ·simp at h
 case extract t i=>
  split at h
  ·rename_i U
   split at h
   ·rename_i M;simp only[ew]at h;subst h;simp only[U,M];exact hk
   ·simp at h
  ·rename_i U
   split at h
   ·rename_i M;simp only[ew]at h;subst h;simp only[U,M];exact hk
   ·simp at h
  ·simp at h
 case fieldAddr T a f=>exact Ua h hk
 case indexAddr T x i=>exact Um h hk
 case field T x f=>
  split at h
  ·rename_i d j q
   split at h
   ·rename_i A w;simp only[ap,eq,ew,av]at h;obtain⟨⟨B,C⟩,rfl⟩:=h;simp only[d,j,q,A,w];exact⟨(iU B).1,(iU C).1,hk⟩
   ·simp at h
  ·simp at h
 case index T x i=>
  split at h
  ·rename_i d j
   split at h
   ·rename_i c hc;simp only[ap,eq,ew]at h;obtain⟨q,rfl⟩:=h;obtain⟨hi,rfl⟩:=bo.1 hc;simp only[d,j];exact⟨q,bb _,hi,hk⟩
   ·simp at h
  ·rename_i u W an i d j
   split at h
   ·rename_i u' n F g q A w;simp only[ap,eq,ew,av]at h;obtain⟨⟨g1,g2,g3⟩,rfl⟩:=h;have e:(Int.ofNat i).toNat=i:=rfl;simp only[d,j,e,q,A,w];exact⟨dv g1,bb _,c7 g2,(iU g3).1,hk⟩
   ·simp at h
  ·simp at h
 case makeFunc fn fi ca=>
  cases fn<;>simp only at h<;>try (simp at h;done)
  rename_i f;simp only;simp only[ap]at h
  split at h
  ·rename_i hf;rw[if_pos hf]
   split at h
   ·rename_i d j;simp only[ew]at h;subst h;simp only[d,j];exact hk
   ·simp at h
  ·rename_i hf;rw[if_neg hf]
   split at h
   ·rename_i d j;simp only[ew]at h;subst h;simp only[d,j];exact hk
   ·rename_i ac;simp only[ew]at h;subst h
    split
    ·rename_i d j;exact(ac _ _ d j).elim
    ·exact hk
 case makeSlice T l c=>
  split at h
  ·rename_i d j q A;simp only[ap,eq,ew,av]at h;obtain⟨⟨w,B,C⟩,rfl⟩:=h;have e:=dv B;simp only[d,j,q,A];refine⟨dv w,bb _,by rw[e],?_,hk⟩;have:=c7 C;show((_:Nat):Int)<=_
   exact_mod_cast this
  ·simp at h
 case slice T x lo hi af=>
  cases af with
  |none=>exact WA h hk
  |some m=>exact Wd h hk
 case makeMap T r=>
  cases r<;>simp only at h
  ·simp only[ew]at h;subst h;exact hk
  ·simp at h
 case lookup T x i ok=>
  unfold MS at h
  split at h
  case h_2=>simp at h
  rename_i d j
  split at h
  case h_2=>simp at h
  rename_i z G;simp only[ap,eq]at h;obtain⟨q,h⟩:=h;simp only[d,j,G];refine⟨q,?_⟩
  have N:∀r:Option PV,Ae ok z r=match r with
    |some v=>if ok=true then .aE [v,.bool true]else v
    |none=>if ok=true then .aE [z,.bool false]else z:=by
   intro r;cases r<;>cases ok<;>rfl
  split at h
  ·rename_i hx;simp only[ew]at h;subst h;simp only[hx];rw[N]at hk;exact hk
  ·rename_i hx
   split at h
   ·rename_i r L;simp only[ew]at h;subst h;rw[N]at hk;simp only[hx,L];cases r<;>exact hk
   ·simp at h
  ·rename_i hx
   split at h
   ·rename_i s
    split at h
    ·rename_i r L;simp only[ew]at h;subst h;rw[N]at hk;simp only[hx,s,L];cases r<;>exact hk
    ·simp at h
   ·rename_i s;simp only[ap,eq]at h;obtain⟨aa,h⟩:=h
    split at h
    ·rename_i r L;simp only[ew]at h;subst h;simp only[hx,s,L];refine⟨aa,?_⟩;cases r<;>cases ok<;>exact hk
    ·simp at h
   ·simp at h
  ·simp at h
 case mapUpdate T m k x|insert T m k x=>
  unfold MP at h
  split at h
  case h_2=>simp at h
  rename_i d j q;simp only[ap,eq]at h;obtain⟨w,h⟩:=h;simp only[d,j,q];generalize ρ x=X at*
  split at h
  ·rename_i s;cases X with
   |p v=>
    simp only at h;refine⟨w,?_⟩
    split at h
    ·rename_i E;simp only[ew]at h;subst h;simp only[s,E];exact hk
    ·simp at h
   |_=>
    refine⟨w,?_⟩;simp only[s];exact Bw h hk
  ·rename_i s;cases X with
   |p v=>
    refine⟨w,?_⟩;simp only[s];exact Bw h hk
   |_=>
    refine⟨w,?_⟩;simp only[s];exact Bw h hk
  ·simp at h
 case range T x=>
  split at h
  ·rename_i hx;simp only[ap,eq,ew]at h;obtain⟨d,rfl⟩:=h;simp only[hx];exact⟨d,hk⟩
  ·simp at h
 case next it isStr=>
  cases isStr<;>simp only at h
  ·simp at h
  unfold Rg at h
  split at h
  ·rename_i hx
   split at h
   ·rename_i s;simp only[hx,s];simp only[ap]at h
    split at h
    ·rename_i R;simp only[ew]at h;subst h;rw[if_pos (by have:=c7 R;omega)];exact hk
    ·rename_i R;simp only[ew]at h;subst h;rw[if_neg (fun ab=>R (ei (Nat.succ_le_of_lt ab)))];exact hk
   ·simp at h
  ·simp at h
 case nilCheck x=>
  split at h
  all_goals first
   |(rename_i hx;simp only[ew]at h;subst h;simp only[hx]at hk⊢;exact hk)
   |simp at h
 case call c=>
  split at h
  case h_2=>simp at h
  rename_i b hc;simp only[hc];generalize c.args.toList.map ρ=args at*;generalize c.argTypes=ai at*;unfold LF at h
  split at h
  ·split at h
   ·rename_i E;simp only[ap,eq,ew,av]at h;obtain⟨⟨d,j⟩,rfl⟩:=h;simp only[E];exact⟨d,c7 j,hk⟩
   ·simp at h
  ·simp only[ap,eq]at h;exact⟨dv h.1,S7 h.2 hk⟩
  ·split at h
   ·rename_i Q;simp only[ew]at h;subst h;simp only[Q];exact hk
   ·simp at h
  ·split at h
   ·rename_i Q;simp only[ew]at h;subst h;simp only[Q];exact hk
   ·simp at h
  ·split at h
   ·rename_i J Z;simp only[ap,eq,av]at h;obtain⟨⟨d,j,q⟩,h⟩:=h;simp only[J,Z];refine⟨dv d,tW j,dv q,?_⟩
    split at h
    ·rename_i s;simp only[eq,ew]at h;obtain⟨⟨A,w,B,C,I⟩,rfl⟩:=h;simp only[s];exact⟨dv A,dv w,DZ B,c7 C,wv I,hk⟩
    ·simp at h
   ·simp at h
  ·split at h
   ·rename_i E;simp only[ap,eq,ew,av]at h;obtain⟨⟨d,j⟩,rfl⟩:=h;simp only[E];exact⟨d,c7 j,hk⟩
   ·simp at h
  ·split at h
   ·simp only[ap,eq,ew,av]at h;obtain⟨⟨d,j⟩,rfl⟩:=h;exact⟨d,c7 j,hk⟩
   ·split at h
    ·rename_i J G s;simp only[ap,eq,ew,av]at h;obtain⟨⟨d,j,q,A,w,B,C,I,O⟩,rfl⟩:=h;simp only[J,G,s];exact⟨dv d,dv j,dv q,dv A,DZ w,c7 B,wv C,c7 I,c7 O,hk⟩
    ·simp at h
   ·simp at h
  ·split at h
   ·simp only[ew]at h;subst h;exact hk
   ·split at h
    ·rename_i s;simp only[ap,eq,av]at h;obtain⟨⟨d,j⟩,h⟩:=h;simp only[s];refine⟨dv d,dv j,?_⟩
     split at h
     ·simp only[eq,ew]at h;obtain⟨⟨A,w⟩,rfl⟩:=h;exact .inr ⟨c7 A,c7 w,hk⟩
     ·rename_i V;simp only[ew]at h;subst h;rename_i k _ _ W _ _;refine .inl ⟨?_,?_,hk⟩<;>(unfold oV at V;split at V<;>simp_all)
    ·simp at h
   ·simp at h
  ·split at h
   ·simp only[ap,eq,ew,av]at h;obtain⟨⟨d,j⟩,rfl⟩:=h;exact⟨by rw[dv d];rfl,dv j,hk⟩
   ·split at h
    ·rename_i s;simp only[ap,eq,av]at h;obtain⟨⟨d,j,q,A,w,B,C,I,O,Y⟩,h⟩:=h;have ak:=c7 w;have am:=c7 C;simp only[s];refine⟨dv d,dv j,dv q,dv A,by simp;omega,by simpa using c7 B,by simp;omega,dv I,wP O,dv Y,?_⟩;simp only[be,bi]
     split at h
     ·rename_i E;simp only[ew]at h;subst h;simp only[E];exact hk
     ·simp at h
    ·simp at h
   ·simp at h
  ·simp at h
 all_goals simp at h
end
end Go.aq
namespace Go.aq
variable[Gl]
section
variable(σ:Nat->Nat)
mutual
def cL:AV->AV
 | .p v=>.p v
 | .ptr b path=>.ptr (σ b) path
 | .cd b aC ai i path=>.cd (σ b) aC ai i path
 | .sl b aC ai off len=>.sl (σ b) aC ai off len
 | .map b=>.map (σ b)
 | .func f fi ca=>.func f (cO fi) (cO ca)
 | .st u fs=>.st u (cO fs)
 | .aE vs=>.aE (cO vs)
def cO:List AV->List AV
 |[]=>[]
 |v::vs=>cL v::cO vs
end
def ub:Env->Env
 |[]=>[]
 |(x,v)::r=>(x,cL σ v)::ub r
def cW:Obj->Obj
 | .box fz t=>.box fz (cL σ t)
 | .arr k aC ai es=>.arr k aC ai (cO σ es)
 | .cZ ks vs=>.cZ ks (cO σ vs)
 | .loop L=>.loop {L with env:=ub σ L.env}
 |o=>o
end
section
variable{σ:Nat->Nat}
theorem C6:∀(e:Env)(x:Nat),aP (ub σ e) x=cL σ (aP e x)
 |[],_=>rfl
 |(y,v)::r,x=>by
  simp only[ub,aP]
  split
  ·rfl
  ·exact C6 r x
theorem sY:∀l:List AV,(cO σ l).length=l.length
 |[]=>rfl
 |_::r=>by simp[cO,sY r]
theorem YA{l:List AV}:cO σ l=[]↔l=[]:=by cases l<;>simp[cO]
theorem oh{k:AK}{a:List AV}:dc k (cO σ a)↔dc k a:=by simp[dc,YA]
theorem Nt{v:AV}:(cL σ v).sB↔v.sB:=by cases v<;>simp[cL,AV.sB]
theorem Xy{v:AV}:aa (cL σ v)=aa v:=by cases v<;>rfl
theorem Mi:∀{l:List AV},(∀e∈cO σ l,e.sB)↔∀e∈l,e.sB
 |[]=>by simp[cO]
 |v::r=>by simp[cO,Nt,Mi (l:=r)]
theorem q9{o:Obj}:(cW σ o).live↔o.live:=by cases o<;>simp[cW,Obj.live,oh]
theorem Nz{o:Obj}{v:Nat}:(cW σ o).has v↔o.has v:=by cases o<;>simp[cW,Obj.has]
theorem XZ{o:Obj}:cW σ o=.hole↔o=.hole:=by cases o<;>simp[cW]
mutual
theorem CN{S:Nat×Nat->Prop}:∀(v:AV),aG S (cL σ v)↔aG (fun x=>S (σ x.1,x.2)) v
 | .p _=>by simp[cL,aG]
 | .ptr _ _| .cd _ _ _ _ _| .sl _ _ _ _ _| .map _=>by simp[cL,aG]
 | .func _ fi ca=>by simp only[cL,aG];rw[tu fi,tu ca]
 | .st _ fs=>by simp only[cL,aG];exact tu fs
 | .aE vs=>by simp only[cL,aG];exact tu vs
theorem tu{S:Nat×Nat->Prop}:∀(l:List AV),aV S (cO σ l)↔aV (fun x=>S (σ x.1,x.2)) l
 |[]=>by simp[cO,aV]
 |v::r=>by simp only[cO,aV];rw[CN v,tu r]
end
theorem WX{S:Nat×Nat->Prop}{o:Obj}:(cW σ o).refs S↔o.refs (fun x=>S (σ x.1,x.2)):=by
 cases o<;>simp only[cW,Obj.refs,CN,tu,C6]
theorem Obj.refs.mono{S T:Nat×Nat->Prop}(h:∀x,S x->T x){o:Obj}(a:o.refs S):o.refs T:=by
 cases o with
 |box fz t=>exact aG.mono h _ a
 |arr k aC ai es=>exact aV.mono h _ a
 |cZ ks vs=>exact aV.mono h _ a
 |loop L=>exact fun x=>aG.mono h _ (a x)
 |_=>trivial
structure dR(σ:Nat->Nat)(dQ:Bd)(H0:aj)(β:Bd)(H:aj):Prop where
 obj:∀(b:Nat)(o:Obj),H0[b]?=some o->H[σ b]?=some (cW σ o)
 an:∀b,b<H0.length->β.an (σ b)=dQ.an b/\β.cap (σ b)=dQ.cap b
section
variable{P:a4}{w:a7}{ad:Nat->Prop}{dQ β:Bd}{H0 H:aj}
theorem dR.box(h:dR σ dQ H0 β H){b:Nat}(a:b<H0.length):mX H (σ b)↔mX H0 b:=by
 have c:=h.obj b _ (bl a);have d:=bl a;unfold mX;rw[c,d];cases H0[b]<;>simp[cW]
theorem dR.it(h:dR σ dQ H0 β H){b:Nat}(a:b<H0.length):mY H (σ b)↔mY H0 b:=by
 have c:=h.obj b _ (bl a);have d:=bl a;unfold mY;rw[c,d];cases H0[b]<;>simp[cW]
theorem dR.map(h:dR σ dQ H0 β H){b:Nat}(a:b<H0.length):ot H (σ b)↔ot H0 b:=by
 have h1:=h.obj b _ (bl a);have c:=bl a;unfold ot;rw[h1,c];cases H0[b]<;>simp[cW,Obj.uY]
theorem dR.loop(h:dR σ dQ H0 β H){b:Nat}(a:b<H0.length):ib H (σ b)↔ib H0 b:=by
 have c:=h.obj b _ (bl a);have d:=bl a;unfold ib;rw[c,d];cases H0[b]<;>simp[cW]
theorem dR.arr(h:dR σ dQ H0 β H){b aC ai:Nat}{k:AK}{es:List AV}(a:b<H0.length):fh H (σ b) aC ai k es↔∃gS,fh H0 b aC ai k gS/\es=cO σ gS:=by
 have c:=h.obj b _ (bl a);have d:=bl a;unfold fh;rw[c,d];cases H0[b]<;>simp[cW];constructor
 ·rintro⟨rfl,rfl,rfl,rfl⟩;exact⟨_,⟨rfl,rfl,rfl,rfl⟩,rfl⟩
 ·rintro⟨_,⟨rfl,rfl,rfl,rfl⟩,rfl⟩;exact⟨rfl,rfl,rfl,rfl⟩
theorem dR.EA(h:dR σ dQ H0 β H){x:Nat×Nat}(a:x.1<H0.length):aI H (σ x.1,x.2)↔aI H0 x:=by
 have b:=h.obj x.1 _ (bl a);have c:=bl a;unfold aI;rw[b,c];simp[Nz]
def Small(n:Nat):Nat×Nat->Prop:=fun x=>x.1<n
theorem dR.qx(h:dR σ dQ H0 β H):∀{a:AV}{v:a6},aG (Small H0.length) a->(bR P β H (cL σ a) v↔bR P dQ H0 a v)
 | .p _,_,_| .func _ _ _,_,_| .st _ _,_,_| .aE _,_,_=>by simp[cL,bR]
 | .ptr b path,v,c=>by
  simp only[aG,Small]at c;simp only[cL,bR,h.box c,h.it c,(h.an b c).1]
 | .cd b aC ai i path,v,c=>by
  simp only[aG,Small]at c;simp only[cL,bR,h.arr c,(h.an b c).1];constructor
  ·rintro⟨an,off,o,f,g,j⟩;exact⟨an,off,o,f,g,fun k d e m=>j k _ ⟨d,e,rfl⟩ (by rwa [oh])⟩
  ·rintro⟨an,off,o,f,g,j⟩;refine⟨an,off,o,f,g,?_⟩;rintro k _ ⟨d,e,rfl⟩ m;exact j k d e (by rwa [oh]at m)
 | .sl b aC ai off len,v,c=>by
  simp only[aG,Small]at c;simp only[cL,bR,h.arr c,(h.an b c).1,(h.an b c).2];constructor
  ·intro l k d e;have:=l k _ ⟨d,e,rfl⟩;simpa only[sY,oh]using this
  ·rintro l k _ ⟨d,e,rfl⟩;have:=l k d e;simpa only[sY,oh]using this
 | .map b,v,c=>by
  simp only[aG,Small]at c;simp only[cL,bR,h.map c,h.loop c,(h.an b c).1]
mutual
theorem dR.NX(h:dR σ dQ H0 β H):∀(a:AV)(cs:List a6),aG (Small H0.length) a->(bn P w ad β H (cL σ a) cs↔bn P w ad dQ H0 a cs)
 | .p _,_,_=>by simp[cL,bn]
 | .aE _,_,_=>by simp[cL,bn]
 | .st u fs,cs,d=>by
  simp only[aG]at d;simp only[cL,bn];exact exists_congr fun l=>exists_congr fun e=>and_congr_right fun _=>and_congr_left fun _=>dR.Ah h l fs e d
 | .func f fi ca,cs,d=>by
  simp only[aG]at d;simp only[cL,bn];exact exists_congr fun l=>exists_congr fun e=>and_congr (dR.qg h fi l d.1) (and_congr_left fun _=>dR.qg h ca e d.2)
 | .ptr b path,cs,d=>by
  have:=fun v=>h.qx (P:=P) (a:=.ptr b path) (v:=v) d;simp only[cL,bn,bN]at this⊢;simp only[this]
 | .cd b aC ai i path,cs,d=>by
  have:=fun v=>h.qx (P:=P) (a:=.cd b aC ai i path) (v:=v) d;simp only[cL,bn,bN]at this⊢;simp only[this]
 | .sl b aC ai off len,cs,d=>by
  have:=fun v=>h.qx (P:=P) (a:=.sl b aC ai off len) (v:=v) d;simp only[cL,bn,bN]at this⊢;simp only[this]
 | .map b,cs,d=>by
  have:=fun v=>h.qx (P:=P) (a:=.map b) (v:=v) d;simp only[cL,bn,bN]at this⊢;simp only[this]
theorem dR.Ah(h:dR σ dQ H0 β H):∀(g:List Nat)(l:List AV)(e:List (List a6)),aV (Small H0.length) l->(bM P w ad β H g (cO σ l) e↔bM P w ad dQ H0 g l e)
 |[],[],e,_=>by simp[cO,bM]
 |[],_::_,e,_=>by simp[cO,bM]
 |_::_,[],e,_=>by simp[cO,bM]
 |n::g,v::vs,e,d=>by
  simp only[aV]at d;simp only[cO,bM];exact exists_congr fun c=>exists_congr fun cs=>and_congr_right fun _=>and_congr (dR.NX h v c d.1) (and_congr_right fun _=>dR.Ah h g vs cs d.2)
theorem dR.Eg(h:dR σ dQ H0 β H):∀(a:AV)(v:a6),aG (Small H0.length) a->(aD P w ad β H (cL σ a) v↔aD P w ad dQ H0 a v)
 | .p _,_,_=>by simp[cL,aD]
 | .aE vs,_,d=>by
  simp only[aG]at d;simp only[cL,aD];exact exists_congr fun l=>and_congr_left fun _=>dR.qg h vs l d
 | .st u fs,cs,d=>by
  simp only[aG]at d;simp only[cL,aD];exact exists_congr fun l=>exists_congr fun e=>and_congr_right fun _=>and_congr_left fun _=>dR.Ah h l fs e d
 | .func f fi ca,cs,d=>by
  simp only[aG]at d;simp only[cL,aD];exact exists_congr fun l=>exists_congr fun e=>and_congr (dR.qg h fi l d.1) (and_congr_left fun _=>dR.qg h ca e d.2)
 | .ptr b path,v,d=>by
  have:=h.qx (P:=P) (a:=.ptr b path) (v:=v) d;simp only[cL,aD,bN]at this⊢;simp only[this]
 | .cd b aC ai i path,v,d=>by
  have:=h.qx (P:=P) (a:=.cd b aC ai i path) (v:=v) d;simp only[cL,aD,bN]at this⊢;simp only[this]
 | .sl b aC ai off len,v,d=>by
  have:=h.qx (P:=P) (a:=.sl b aC ai off len) (v:=v) d;simp only[cL,aD,bN]at this⊢;simp only[this]
 | .map b,v,d=>by
  have:=h.qx (P:=P) (a:=.map b) (v:=v) d;simp only[cL,aD,bN]at this⊢;simp only[this]
theorem dR.qg(h:dR σ dQ H0 β H):∀(l:List AV)(vs:List a6),aV (Small H0.length) l->(bw P w ad β H (cO σ l) vs↔bw P w ad dQ H0 l vs)
 |[],vs,_=>by simp[cO,bw]
 |a::l,vs,d=>by
  simp only[aV]at d;simp only[cO,bw];exact exists_congr fun y=>exists_congr fun j=>and_congr_right fun _=>and_congr (dR.Eg h a y d.1) (dR.qg h l j d.2)
end
theorem dR.Rn(h:dR σ dQ H0 β H){ah Prot0:Nat->Prop}{b:Nat}{o:Obj}(f:H0[b]?=some o)(c:o.refs (Small H0.length))(a:o.live->∀fz,cE ad dQ Prot0 fz b↔cE ad β ah fz (σ b)):
 fC P w ad β H ah (σ b) (cW σ o)↔fC P w ad dQ H0 Prot0 b o:=by
 have g:b<H0.length:=(bo.1 f).1;obtain⟨k1,k2⟩:=h.an b g;cases o with
 |hole=>simp[cW,fC]
 |dead=>simp[cW,fC]
 |box fz t=>
  simp only[cW,fC,k1,<-a trivial,h.NX t _ c,Nt,Xy]
 |arr k aC ai es=>
  simp only[cW,fC,k1,k2,oh,sY,Mi]
  by_cases e:dc k es
  ·simp[e]
  ·simp only[e,false_or,<-a e,h.Ah _ es _ c]
 |map fz es=>
  simp only[cW,fC,k1,<-a trivial]
 |cZ ks vs=>
  simp only[cW,fC,k1,<-a trivial,h.qg vs _ c]
 |dw s pos=>
  simp only[cW,fC,k1,<-a trivial]
 |loop L=>
  simp only[cW,fC,k1,<-a trivial,C6];exact exists_congr fun t=>exists_congr fun d=>exists_congr fun fn=>and_congr_right fun _=>and_congr_right fun _=>and_congr_left fun _=>forall_congr' fun x=>h.Eg _ _ (c x)
end
end
end Go.aq
namespace Go.aq
variable[Gl]
def sig(bs:List Nat)(a i:Nat):Nat:=match bs[i]? with
 |some b=>b
 |none=>a+(i-bs.length)
theorem tL{bs:List Nat}{a i:Nat}(h:i<bs.length):sig bs a i=bs[i]:=by simp[sig,h]
theorem tM{bs:List Nat}{a i:Nat}(h:bs.length<=i):sig bs a i=a+(i-bs.length):=by simp[sig,h]
theorem aH9{bs:List Nat}{a:Nat}(e:bs.Nodup)(d:∀b∈bs,b<a){i j:Nat}(h:sig bs a i=sig bs a j):i=j:=by
 by_cases hi:i<bs.length<;>by_cases c:j<bs.length
 ·rw[tL hi,tL c]at h;exact(List.getElem_inj e).1 h
 ·rw[tL hi,tM o_]at h;have:=d _ (dk hi);omega
 ·rw[tM o_,tL c]at h;have:=d _ (dk c);omega
 ·rw[tM o_,tM o_]at h;omega
theorem rr:∀{l:List (Nat×Obj)}{H:aj}{x:Nat},(∀p∈l,p.1≠x)->(bc H l)[x]?=H[x]?
 |[],_,_,_=>rfl
 |(b,o)::r,H,x,h=>by
  simp only[bc];rw[rr (fun p a=>h p (by simp[a])),List.getElem?_set_ne (h (b,o) s_)]
theorem tX:∀{l:List (Nat×Obj)}{H:aj},(l.map (·.1)).Nodup->∀p∈l,p.1<H.length->(bc H l)[p.1]?=some p.2
 |[],_,_,_,h,_=>by simp at h
 |(b,o)::r,H,a,p,c,d=>by
  simp only[b3,dp]at a;simp only[bc];rcases bV.1 c with rfl|c
  ·rw[rr (fun q hq e=>a.1 (bW.2 ⟨q,hq,e⟩)),List.getElem?_set_self d]
  ·exact tX a.2 p c (by simpa using d)
theorem Cv(a:Nat):∀(l:List Obj),(newAt a l).map (·.1)=List.range' a l.length
 |[]=>rfl
 |o::r=>by simp[newAt,Cv (a+1) r,List.range'_succ]
theorem Kl:∀(l:List Obj)(a j:Nat)(h:j<l.length),(a+j,l[j])∈newAt a l
 |[],_,_,h=>by simp at h
 |o::r,a,0,h=>by simp[newAt]
 |o::r,a,j+1,h=>by
  have:=Kl r (a+1) j (by simpa using h);simp only[newAt,List.getElem_cons_succ,bV];right;have e:a+(j+1)=a+1+j:=o_
  rw[e];exact this
section
variable{P:a4}{w w':a7}{ad aH ah:Nat->Prop}{β aM:Bd}{H H':aj}
theorem fC.mut{b:Nat}{o:Obj}(h:fC P w ad β H ah b o)(f:o.live)(l:¬ad (β.an b)):¬ah (β.an b):=by
 have held:∀{fz},cE ad β ah fz b->¬ah (β.an b):=by
  intro fz g;cases fz with
  |true=>exact(l (by simpa[cE]using g)).elim
  |false=>
   have:¬ad (β.an b)/\¬ah (β.an b):=by simpa[cE]using g
   exact this.2
 cases o with
 |hole=>exact f.elim
 |dead=>exact f.elim
 |box fz t=>
  obtain⟨cs,T,c,d,a,e⟩:=h;exact held a
 |arr k aC ai es=>
  rcases h with h|⟨cs,T,m,rest,c,d,a,e,n,p,j,q⟩
  ·exact(f h).elim
  ·exact held j
 |map fz es=>
  obtain⟨i,clock,c,d,a⟩:=h;exact held a
 |cZ ks vs=>
  obtain⟨i,clock,c,d,a,e⟩:=h;exact held e
 |dw s pos=>
  obtain⟨bs,c,d,a⟩:=h;exact held a
 |loop L=>
  obtain⟨tmps,defers,fn,c,d,a,e⟩:=h;exact held e
theorem fC.carry(hi:∀k,ad k->aH k)(hs:∀k,ad k->w'.heap[k]?=w.heap[k]?)(aN:cw β H aM H'){b:Nat}{o:Obj}(j:o.refs (aI H))
 (i:o.live->w'.heap[β.an b]?=w.heap[β.an b]?/\aM.an b=β.an b/\aM.cap b=β.cap b)(held:o.live->∀fz,cE ad β ah fz b->cE aH aM ah fz b)(h:fC P w ad β H ah b o):fC P w' aH aM H' ah b o:=by
 cases o with
 |hole=>trivial
 |dead=>trivial
 |box fz t=>
  obtain⟨cs,T,c,d,e,g⟩:=h;obtain⟨b1,a,f⟩:=i trivial;exact⟨cs,T,by rw[a,b1];exact c,bn.mono hi hs aN _ _ j d,held trivial _ e,g⟩
 |arr k aC ai es=>
  rcases h with h|⟨cs,T,n,rest,c,d,e,g,p,q,r,u⟩
  ·exact .inl h
  ·by_cases m:dc k es
   ·exact .inl m
   ·obtain⟨b1,a,f⟩:=i m;exact .inr ⟨cs,T,n,rest,by rw[a,b1];exact c,bM.mono hi hs aN _ _ _ j d,e,by rw[f];exact g,by rw[f];exact p,by rw[f];exact q,held m _ r,u⟩
 |map fz es=>
  obtain⟨l,clock,c,d,e⟩:=h;obtain⟨b1,a,f⟩:=i trivial;exact⟨l,clock,by rw[a,b1];exact c,cF.mono hi hs _ _ d,held trivial _ e⟩
 |cZ ks vs=>
  obtain⟨l,clock,c,d,e,g⟩:=h;obtain⟨b1,a,f⟩:=i trivial;exact⟨l,clock,by rw[a,b1];exact c,br.mono hi hs _ _ d,bw.mono hi hs aN _ _ j e,held trivial _ g⟩
 |dw s pos=>
  obtain⟨bs,c,d,e⟩:=h;obtain⟨b1,a,f⟩:=i trivial;exact⟨bs,by rw[a,b1];exact c,d,held trivial _ e⟩
 |loop L=>
  obtain⟨tmps,defers,fn,c,d,e,g⟩:=h;obtain⟨b1,a,f⟩:=i trivial;exact⟨tmps,defers,fn,by rw[a,b1];exact c,d,fun x=>aD.mono hi hs aN _ _ (j x) (e x),held trivial _ g⟩
def dy(bs:List Nat)(a:Nat)(H0 bX:aj)(b:AV):aY:=
 {v:=cL (sig bs a) b,al:=bs.zip (H0.map (cW (sig bs a))),aK:=bs.zip ((bX.take H0.length).map (cW (sig bs a))),aX:=(bX.drop H0.length).map (cW (sig bs a))}
open Classical in
theorem J1{H0 bX:aj}{fP:List AV}{v0:AV}(bs:List Nat)(base:Nat)(hlen:bs.length=H0.length)(hnd:bs.Nodup)(hlt:∀b∈bs,b<base)
 (hl:H0.length<=bX.length)(ha:aV (aI H0) fP)(ho:∀(b:Nat)(o:Obj),H0[b]?=some o->o.refs (aI H0))
 {H:aj}{w:a7}{ad ah:Nat->Prop}{β:Bd}{cargs:List a6}(hr:b7 P w ad β H ah)(hargs:bw P w ad β H (cO (sig bs base) fP) cargs)
 (al:∀p∈(dy bs base H0 bX v0).al,H[p.1]?=some p.2)(aX:∀i,i<(dy bs base H0 bX v0).aX.length->H[base+i]?=some .hole):
 ∃(dQ:Bd)(Prot0:Nat->Prop),(∀b,dQ.an b=β.an (sig bs base b))/\b7 P w ad dQ H0 Prot0/\bw P w ad dQ H0 fP cargs/\(∀b,b<H0.length->(ib H (sig bs base b)↔ib H0 b))/\
  ∀(cv:a6)(w':a7)(β0':Bd)(aH:Nat->Prop),bZ P Prot0 ad w dQ H0 aH w' β0' bX->aD P w' aH β0' bX v0 cv->aG (aI bX) v0->
   ∃aM,bZ P ah ad w β H aH w' aM (bc H ((dy bs base H0 bX v0).aK++newAt base (dy bs base H0 bX v0).aX))/\
    aD P w' aH aM (bc H ((dy bs base H0 bX v0).aK++newAt base (dy bs base H0 bX v0).aX)) (dy bs base H0 bX v0).v cv/\
    aG (aI (bc H ((dy bs base H0 bX v0).aK++newAt base (dy bs base H0 bX v0).aX))) (dy bs base H0 bX v0).v:=by
 obtain⟨σ,hσ⟩:∃σ,σ=sig bs base:=⟨_,rfl⟩
 have hinj:∀{i j},σ i=σ j->i=j:=fun{i j} h=>aH9 hnd hlt (by rw[hσ]at h;exact h);have hold:∀{i}(hi:i<H0.length),σ i=bs[i]' o_:=fun hi=>by rw[hσ];exact tL _
 have hnw:∀{i},H0.length<=i->σ i=base+(i-H0.length):=fun hi=>by rw[hσ,tM o_,hlen]
 have hget:∀(b:Nat)(o:Obj),H0[b]?=some o->H[σ b]?=some (cW σ o):=by
  intro b o hb;obtain⟨hbl,rfl⟩:=bo.1 hb;have:=al (bs[b]' o_,cW (sig bs base) H0[b]) (by
   simp only[dy];rw[bp];exact⟨b,by simp;omega,s_⟩)
  rw[hold hbl,hσ];exact this
 have hnewH:∀i,H0.length<=i->i<bX.length->H[σ i]?=some .hole:=by
  intro i h1 h2;rw[hnw h1];exact aX (i-H0.length) (by simp[dy];omega)
 obtain⟨H2,hH2⟩:∃H2,H2=bc H ((dy bs base H0 bX v0).aK++newAt base (dy bs base H0 bX v0).aX):=⟨_,rfl⟩
 have hkeys:∀p∈(dy bs base H0 bX v0).aK++newAt base (dy bs base H0 bX v0).aX,∃i,i<bX.length/\p.1=σ i:=by
  intro p hp;rcases dq.1 hp with hp|hp
  ·simp only[dy]at hp;have hm:=(ck hp).1;obtain⟨i,hi,he⟩:=bp.1 hm;exact⟨i,o_,by rw[hold o_];exact he.symm⟩
  ·have hm:p.1∈(newAt base (dy bs base H0 bX v0).aX).map (·.1):=c9 hp
   rw[Cv,da]at hm;simp only[dy,List.length_map,List.length_drop]at hm;exact⟨H0.length+(p.1-base),o_,by rw[hnw o_];omega⟩
 have hndk:(((dy bs base H0 bX v0).aK++newAt base (dy bs base H0 bX v0).aX).map (·.1)).Nodup:=by
  rw[dz,Cv];have e:(dy bs base H0 bX v0).aK.map (·.1)=bs:=by
   simp only[dy];rw[dg];simp;omega
  rw[e,List.nodup_append];refine⟨hnd,List.nodup_range',fun a h1 b h2 he=>?_⟩;subst he;have:=hlt _ h1;rw[da]at h2;omega
 have hA:∀(i:Nat)(o:Obj),bX[i]?=some o->H2[σ i]?=some (cW σ o):=by
  intro i o hi;obtain⟨hil,rfl⟩:=bo.1 hi
  by_cases hi0:i<H0.length
  ·have hm:(bs[i]' o_,cW (sig bs base) bX[i])∈(dy bs base H0 bX v0).aK++newAt base (dy bs base H0 bX v0).aX:=by
    refine List.mem_append_left _ ?_;simp only[dy];rw[bp];exact⟨i,by simp;omega,s_⟩
   have:=tX (H:=H) hndk _ hm (by
    have:=hget i _ (bl hi0);rw[hold hi0]at this;exact(bo.1 this).1)
   rw[hH2,hold hi0,this,hσ]
  ·have hm:(base+(i-H0.length),cW (sig bs base) bX[i])∈(dy bs base H0 bX v0).aK++newAt base (dy bs base H0 bX v0).aX:=by
    refine List.mem_append_right _ ?_;have:=Kl (dy bs base H0 bX v0).aX base (i-H0.length) (by simp[dy];omega);have e:(dy bs base H0 bX v0).aX[i-H0.length]'(by simp[dy];omega)=cW (sig bs base) bX[i]:=by
     simp only[dy,List.getElem_map,List.getElem_drop];congr 2;omega
    rw[e]at this;exact this
   have:=tX (H:=H) hndk _ hm (by
    have:=hnewH i o_ hil;rw[hnw o_]at this;exact(bo.1 this).1)
   rw[hH2,hnw o_,this,hσ]
 have hB:∀x,(∀i,i<bX.length->σ i≠x)->H2[x]?=H[x]?:=by
  intro x hx;rw[hH2];refine rr fun p hp=>?_;obtain⟨i,h1,h2⟩:=hkeys p hp;rw[h2];exact hx i h1
 let dQ:Bd:=⟨fun b=>β.an (σ b),fun b=>β.cap (σ b)⟩
 let Prot0:Nat->Prop:=fun k=>ah k\/∃x o,H[x]?=some o/\o.live/\(∀i,i<H0.length->σ i≠x)/\β.an x=k
 have hemb:dR σ dQ H0 β H:=⟨hget,fun b _=>⟨rfl,rfl⟩⟩
 have small:∀x:Nat×Nat,aI H0 x->Small H0.length x:=fun x⟨o,ho,_⟩=>(bo.1 ho).1;have held0:∀{b:Nat}{o:Obj},H0[b]?=some o->o.live->∀fz,cE ad dQ Prot0 fz b↔cE ad β ah fz (σ b):=by
  intro b o hb hlv fz;cases fz with
  |true=>simp[cE,dQ]
  |false=>
   simp only[cE,ax,if_false];refine and_congr_right fun hni=>⟨fun h hp=>h (.inl hp),fun h hp=>?_⟩
   rcases hp with hp|⟨x,o',h1,h2,h3,h4⟩
   ·exact h hp
   ·exact h3 b (bo.1 hb).1 (hr.inj _ _ _ _ (hget b o hb) h1 (q9.2 hlv) h2 hni h4.symm)
 have hr0:b7 P w ad dQ H0 Prot0:=by
  refine⟨fun b o hb=>?_,fun b b' o o' h1 h2 l1 l2 hni he=>?_,ho,hr.bS,fun k hk=>?_,hr.jg⟩
  ·exact(hemb.Rn hb ((ho b o hb).mono small) (held0 hb)).1 (hr.cK _ _ (hget b o hb))
  ·exact hinj (hr.inj _ _ _ _ (hget b o h1) (hget b' o' h2) (q9.2 l1) (q9.2 l2) hni he)
  ·rcases hk with hk|⟨x,o,h1,h2,_,rfl⟩
   ·exact hr.eM k hk
   ·exact hr.om h1 h2
 have hargs0:bw P w ad dQ H0 fP cargs:=by
  rw[<-hσ]at hargs;exact(hemb.qg _ _ (aV.mono small _ ha)).1 hargs
 refine⟨dQ,Prot0,fun b=>by rw[<-hσ],hr0,hargs0,fun b hb=>by rw[<-hσ];exact hemb.loop hb,fun cv w' β0' aH hp hv hvr=>?_⟩
 let aM:Bd:=⟨fun x=>if h:∃i,i<bX.length/\σ i=x then β0'.an h.choose else β.an x,fun x=>if h:∃i,i<bX.length/\σ i=x then β0'.cap h.choose else β.cap x⟩
 have hβ:∀i,i<bX.length->aM.an (σ i)=β0'.an i/\aM.cap (σ i)=β0'.cap i:=by
  intro i hi;have hex:∃j,j<bX.length/\σ j=σ i:=⟨i,hi,rfl⟩
  have hc:hex.choose=i:=hinj hex.choose_spec.2;simp only[aM,dif_pos hex,hc,and_self]
 have hβn:∀x,(∀i,i<bX.length->σ i≠x)->aM.an x=β.an x/\aM.cap x=β.cap x:=by
  intro x hx;have hnex:¬∃i,i<bX.length/\σ i=x:=fun⟨i,h1,h2⟩=>hx i h1 h2;simp only[aM,dif_neg hnex,and_self]
 have hemb':dR σ β0' bX aM H2:=⟨hA,fun b hb=>hβ b hb⟩
 have small':∀x:Nat×Nat,aI bX x->Small bX.length x:=fun x⟨o,ho,_⟩=>(bo.1 ho).1;have split:∀x,(∃i,i<bX.length/\σ i=x)\/∀i,i<bX.length->σ i≠x:=by
  intro x
  by_cases hx:∃i,i<bX.length/\σ i=x
  ·exact .inl hx
  ·exact .inr fun i h1 h2=>hx ⟨i,h1,h2⟩
 have inOld:∀{i v},i<bX.length->aI H (σ i,v)->aI H0 (i,v)/\i<H0.length:=by
  intro i v hi ⟨o,h1,h2⟩
  by_cases hi0:i<H0.length
  ·refine⟨?_,hi0⟩;have:=hget i _ (bl hi0);simp only at h1;rw[this]at h1;cases h1;exact⟨_,bl hi0,Nz.1 h2⟩
  ·have:=hnewH i o_ hi;simp only at h1;rw[this]at h1;cases h1;exact h2.elim
 have im:cw β H aM H2:=by
  refine⟨?_,?_,?_,?_,?_⟩
  ·intro b hb hlv;rcases split b with⟨i,hi,rfl⟩|hx
   ·obtain⟨k1,k2⟩:=inOld hi hb;obtain⟨g1,g2⟩:=hp.step.box i k1 ((hemb'.box hi).1 hlv);exact⟨(hemb.box k2).2 g1,(hβ i hi).1.trans g2⟩
   ·unfold mX at hlv⊢;rw[hB b hx]at hlv;exact⟨hlv,(hβn b hx).1⟩
  ·intro b hb hlv;rcases split b with⟨i,hi,rfl⟩|hx
   ·obtain⟨k1,k2⟩:=inOld hi hb;obtain⟨g1,g2⟩:=hp.step.it i k1 ((hemb'.it hi).1 hlv);exact⟨(hemb.it k2).2 g1,(hβ i hi).1.trans g2⟩
   ·unfold mY at hlv⊢;rw[hB b hx]at hlv;exact⟨hlv,(hβn b hx).1⟩
  ·intro b hb hlv;rcases split b with⟨i,hi,rfl⟩|hx
   ·obtain⟨k1,k2⟩:=inOld hi hb;obtain⟨g1,g2⟩:=hp.step.map i k1 ((hemb'.map hi).1 hlv);exact⟨(hemb.map k2).2 g1,(hβ i hi).1.trans g2⟩
   ·unfold ot at hlv⊢;rw[hB b hx]at hlv;exact⟨hlv,(hβn b hx).1⟩
  ·intro b aC ai k es hb hlv;rcases split b with⟨i,hi,rfl⟩|hx
   ·obtain⟨k1,k2⟩:=inOld hi hb;obtain⟨gS,g0,rfl⟩:=(hemb'.arr hi).1 hlv;obtain⟨k0,es1,g1,g2,g3,g4⟩:=hp.step.arr i aC ai k gS k1 g0;refine⟨k0,cO σ es1,(hemb.arr k2).2 ⟨_,g1,rfl⟩,by rw[sY,sY];exact g2,by rw[oh,oh];exact g3,fun hn=>?_⟩;rw[oh]at hn;rw[(hβ i hi).1,(hβ i hi).2];exact g4 hn
   ·unfold fh at hlv⊢;rw[hB b hx]at hlv;exact⟨k,es,hlv,ee _,Iff.rfl,fun _=>hβn b hx⟩
  ·intro b hb hlv;rcases split b with⟨i,hi,rfl⟩|hx
   ·obtain⟨k1,k2⟩:=inOld hi hb;obtain⟨g1,g2⟩:=hp.step.loop i k1 ((hemb'.loop hi).1 hlv);exact⟨(hemb.loop k2).2 g1,(hβ i hi).1.trans g2⟩
   ·unfold ib at hlv⊢;rw[hB b hx]at hlv;exact⟨hlv,(hβn b hx).1⟩
 have hinn:∀x,aI H x->aI H2 x:=by
  rintro⟨b,v⟩ hb;rcases split b with⟨i,hi,rfl⟩|hx
  ·obtain⟨k1,_⟩:=inOld hi hb;exact(hemb'.EA (x:=(i,v)) hi).2 (hp.fS _ k1)
  ·obtain⟨o,h1,h2⟩:=hb;exact⟨o,by simp only;rw[hB b hx];exact h1,h2⟩
 have prot0:∀{x:Nat}{o:Obj},(∀i,i<bX.length->σ i≠x)->H[x]?=some o->o.live->Prot0 (β.an x):=by
  intro x o hx h1 h2;exact .inr ⟨x,o,h1,h2,fun i hi=>hx i o_,rfl⟩
 have mut':∀{i:Nat}{o:Obj},bX[i]?=some o->o.live->¬aH (β0'.an i)->¬Prot0 (β0'.an i):=by
  intro i o h1 h2 h3;exact(hp.rel.cK i o h1).mut h2 h3
 have hrel:b7 P w' aH aM H2 ah:=by
  refine⟨fun x o hx=>?_,fun x x' o o' h1 h2 l1 l2 hni he=>?_,fun x o hx=>?_,hp.rel.bS,fun k hk=>hp.rel.eM k (.inl hk),hp.rel.jg⟩
  ·rcases split x with⟨i,hi,rfl⟩|hn
   ·have hg:=hA i _ (bl hi);rw[hg]at hx;cases hx;refine(hemb'.Rn (Prot0:=Prot0) (bl hi) ((hp.rel.refs i _ (bl hi)).mono small') (fun hlv fz=>?_)).2 (hp.rel.cK i _ (bl hi));cases fz with
    |true=>simp[cE,(hβ i hi).1]
    |false=>
     simp only[cE,ax,if_false,(hβ i hi).1];exact⟨fun h=>⟨h.1,fun hp=>h.2 (.inl hp)⟩,fun h=>⟨h.1,mut' (bl hi) hlv h.1⟩⟩
   ·rw[hB x hn]at hx;refine fC.carry hp.bS (fun k hk=>hp.ext.same k (.inr hk)) im (hr.refs x o hx) (fun hlv=>⟨hp.ext.same _ (.inl (prot0 hn hx hlv)),hβn x hn⟩) (fun hlv fz hh=>?_) (hr.cK x o hx);have hp0:=prot0 hn hx hlv;cases fz with
    |true=>
     simp only[cE,if_true]at hh⊢;rw[(hβn x hn).1];exact hp.bS _ hh
    |false=>
     simp only[cE,ax,if_false]at hh⊢;rw[(hβn x hn).1];exact⟨fun hi=>(hp.fresh _ hi).elim hh.1 (fun h=>h hp0),hh.2⟩
  ·rcases split x with⟨i,hi,rfl⟩|hn<;>rcases split x' with⟨j,hj,rfl⟩|hn'
   ·have g1:=hA i _ (bl hi);have g2:=hA j _ (bl hj);rw[g1]at h1;cases h1;rw[g2]at h2;cases h2;rw[(hβ i hi).1,(hβ j hj).1]at he;rw[(hβ i hi).1]at hni;rw[hp.rel.inj i j _ _ (bl hi) (bl hj) (q9.1 l1) (q9.1 l2) hni he]
   ·have g1:=hA i _ (bl hi);rw[g1]at h1;cases h1;rw[hB x' hn']at h2;rw[(hβ i hi).1,(hβn x' hn').1]at he;rw[(hβ i hi).1]at hni;exact(mut' (bl hi) (q9.1 l1) hni (he▸prot0 hn' h2 l2)).elim
   ·have g2:=hA j _ (bl hj);rw[g2]at h2;cases h2;rw[hB x hn]at h1;rw[(hβ j hj).1,(hβn x hn).1]at he;rw[(hβn x hn).1]at hni;exact(mut' (bl hj) (q9.1 l2) (he▸hni) (he▸prot0 hn h1 l1)).elim
   ·rw[hB x hn]at h1;rw[hB x' hn']at h2;rw[(hβn x hn).1,(hβn x' hn').1]at he;rw[(hβn x hn).1]at hni;exact hr.inj _ _ _ _ h1 h2 l1 l2 (fun hi=>hni (hp.bS _ hi)) he
  ·rcases split x with⟨i,hi,rfl⟩|hn
   ·have hg:=hA i _ (bl hi);rw[hg]at hx;cases hx;rw[WX];exact(hp.rel.refs i _ (bl hi)).mono (fun y hy=>(hemb'.EA (small' y hy)).2 hy)
   ·rw[hB x hn]at hx;exact(hr.refs x o hx).mono hinn
 refine⟨aM,?_,?_,?_⟩
 ·rw[<-hH2];refine⟨hp.bS,fun k hk=>(hp.fresh k hk).imp id (fun h h'=>h (.inl h')),⟨hp.ext.size,fun k hk=>hp.ext.same k (hk.imp .inl id),hp.ext.io⟩,im,hrel,hinn,fun b hb=>?_⟩;rcases split b with⟨i,hi,rfl⟩|hx
  ·by_cases hi0:i<H0.length
   ·exact(hemb'.loop hi).2 (hp.loop i ((hemb.loop hi0).1 hb))
   ·obtain⟨L,hL⟩:=hb;rw[hnewH i o_ hi]at hL;cases hL
  ·unfold ib at hb⊢;rw[hB b hx];exact hb
 ·rw[<-hH2];show aD P w' aH aM H2 (cL (sig bs base) v0) cv;rw[<-hσ];exact(hemb'.Eg _ _ (aG.mono small' _ hvr)).2 hv
 ·rw[<-hH2];show aG (aI H2) (cL (sig bs base) v0);rw[<-hσ,CN];exact aG.mono (fun y hy=>(hemb'.EA (small' y hy)).2 hy) _ hvr
theorem cC.frame{f:a3}{H0 bX:aj}{fP:List AV}{g:AV}(h:cC P f H0 fP bX g)(bs:List Nat)(a:Nat)(q:bs.length=H0.length)(s:bs.Nodup)(r:∀b∈bs,b<a)
 (p:H0.length<=bX.length)(d:aV (aI H0) fP)(t:∀(b:Nat)(o:Obj),H0[b]?=some o->o.refs (aI H0)):
 sq P f (cO (sig bs a) fP) a (dy bs a H0 bX g):=by
 refine⟨h.1,fun H w ad ah β l v m _ al aX=>?_⟩;obtain⟨dQ,i,-,x,n,-,back⟩:=J1 bs a q s r p d t v m al aX;refine(h.2 w ad i dQ l x n d).mono ?_;rintro e w' ⟨c,A,aH,rfl,u,y,z⟩;obtain⟨aM,b1,j,k⟩:=back c w' A aH u y z;exact⟨c,aM,aH,rfl,b1,j,k⟩
theorem fx.frame{b:Nat}{H0 bX:aj}{fP:List AV}{i:AV}(h:fx P b H0 fP bX i)(bs:List Nat)(a:Nat)(v:bs.length=H0.length)(z:bs.Nodup)(y:∀b∈bs,b<a)
 (u:H0.length<=bX.length)(g:aV (aI H0) fP)(A:∀(b:Nat)(o:Obj),H0[b]?=some o->o.refs (aI H0)):
 oI P (sig bs a b) (cO (sig bs a) fP) a (dy bs a H0 bX i):=by
 intro H w ad ah β n C q _ al aX;obtain⟨dQ,j,s,D,r,x,back⟩:=J1 bs a v z y u g A C q al aX;have t:b<H0.length:=by
  obtain⟨L,p⟩:=h.1;exact(bo.1 p).1
 refine⟨(x b t).2 h.1,?_⟩;obtain⟨f,tmps,assign,body,d,e⟩:=h.2 w ad j dQ n D r g;rw[s]at d e;refine⟨f,tmps,assign,body,d,fun m G=>?_⟩;obtain⟨c,w',I,aH,g1,B,E,F⟩:=e m G;obtain⟨aM,b1,k,l⟩:=back c w' I aH B E F;exact⟨c,w',aM,aH,g1,b1,k,l⟩
end
end Go.aq
namespace Go.aq
variable[Gl]
def lh(b:Nat):List Nat->Nat->Option Nat
 |[],_=>none
 |x::r,i=>bif ed x b then some i else lh b r (i+1)
theorem Ml{b:Nat}:∀{l:List Nat}{i j:Nat},lh b l i=some j->i<=j/\l[j-i]?=some b
 |[],_,_,h=>by simp[lh]at h
 |x::r,i,j,h=>by
  simp only[lh]at h;cases a:ed x b
  ·simp only[a,cond_false]at h;obtain⟨d,c⟩:=Ml h;refine⟨o_,?_⟩;have e:j-i=(j-(i+1))+1:=by omega
   rw[e,List.getElem?_cons_succ];exact c
  ·simp only[a,cond_true,ew]at h;subst h;simp[dv a]
section
variable(bs:List Nat)
mutual
def mw:AV->Option AV
 | .p v=>some (.p v)
 | .ptr b path=>match lh b bs 0 with
  |some i=>some (.ptr i path)
  |none=>none
 | .cd b aC ai i path=>match lh b bs 0 with
  |some j=>some (.cd j aC ai i path)
  |none=>none
 | .sl b aC ai off len=>match lh b bs 0 with
  |some j=>some (.sl j aC ai off len)
  |none=>none
 | .map b=>match lh b bs 0 with
  |some j=>some (.map j)
  |none=>none
 | .func f fi ca=>match mn fi,mn ca with
  |some a,some b=>some (.func f a b)
  |_,_=>none
 | .st u fs=>match mn fs with
  |some a=>some (.st u a)
  |none=>none
 | .aE vs=>match mn vs with
  |some a=>some (.aE a)
  |none=>none
def mn:List AV->Option (List AV)
 |[]=>some []
 |v::r=>match mw v,mn r with
  |some a,some b=>some (a::b)
  |_,_=>none
end
def DM:Obj->Option Obj
 | .box fz t=>match mw bs t with
  |some a=>some (.box fz a)
  |none=>none
 | .arr k aC ai es=>match mn bs es with
  |some a=>some (.arr k aC ai a)
  |none=>none
 | .map fz es=>some (.map fz es)
 | .cZ ks vs=>match mn bs vs with
  |some a=>some (.cZ ks a)
  |none=>none
 | .dw s n=>some (.dw s n)
 | .dead=>some .dead
 |_=>none
def v8(H:aj):List Nat->Option aj
 |[]=>some []
 |b::r=>match H[b]? with
  |some o=>match DM bs o,v8 H r with
   |some a,some t=>some (a::t)
   |_,_=>none
  |none=>none
end
section
variable{bs:List Nat}{base:Nat}
theorem zh{b i:Nat}(h:lh b bs 0=some i):sig bs base i=b:=by
 have:=(Ml h).2;simp only[Nat.sub_zero]at this;simp[sig,this]
mutual
theorem Lh:∀{a a0:AV},mw bs a=some a0->cL (sig bs base) a0=a
 | .p v,a0,h=>by simp only[mw,ew]at h;subst h;rfl
 | .ptr b path,a0,h=>by
  simp only[mw]at h
  split at h
  ·rename_i i hi;simp only[ew]at h;subst h;simp only[cL,zh hi]
  ·simp at h
 | .cd b aC ai i path,a0,h=>by
  simp only[mw]at h
  split at h
  ·rename_i i hi;simp only[ew]at h;subst h;simp only[cL,zh hi]
  ·simp at h
 | .sl b aC ai off len,a0,h=>by
  simp only[mw]at h
  split at h
  ·rename_i i hi;simp only[ew]at h;subst h;simp only[cL,zh hi]
  ·simp at h
 | .map b,a0,h=>by
  simp only[mw]at h
  split at h
  ·rename_i i hi;simp only[ew]at h;subst h;simp only[cL,zh hi]
  ·simp at h
 | .func f fi ca,a0,h=>by
  simp only[mw]at h
  split at h
  ·rename_i a b c e;simp only[ew]at h;subst h;simp only[cL,pz c,pz e]
  ·simp at h
 | .st u fs,a0,h=>by
  simp only[mw]at h
  split at h
  ·rename_i a c;simp only[ew]at h;subst h;simp only[cL,pz c]
  ·simp at h
 | .aE vs,a0,h=>by
  simp only[mw]at h
  split at h
  ·rename_i a c;simp only[ew]at h;subst h;simp only[cL,pz c]
  ·simp at h
theorem pz:∀{l d:List AV},mn bs l=some d->cO (sig bs base) d=l
 |[],d,h=>by simp only[mn,ew]at h;subst h;rfl
 |v::r,d,h=>by
  simp only[mn]at h
  split at h
  ·rename_i a b c e;simp only[ew]at h;subst h;simp only[cO,Lh c,pz e]
  ·simp at h
end
theorem Wt{o c:Obj}(h:DM bs o=some c):cW (sig bs base) c=o:=by
 cases o<;>simp only[DM]at h
 case box fz t=>
  split at h
  ·rename_i a b;simp only[ew]at h;subst h;simp only[cW,Lh b]
  ·simp at h
 case arr k aC ai es=>
  split at h
  ·rename_i a b;simp only[ew]at h;subst h;simp only[cW,pz b]
  ·simp at h
 case cZ ks vs=>
  split at h
  ·rename_i a b;simp only[ew]at h;subst h;simp only[cW,pz b]
  ·simp at h
 case hole=>simp at h
 case loop=>simp at h
 all_goals (simp only[ew]at h;subst h;rfl)
theorem J4{H:aj}:∀{l:List Nat}{H0:aj},v8 bs H l=some H0->H0.length=l.length/\∀p∈l.zip (H0.map (cW (sig bs base))),H[p.1]?=some p.2
 |[],H0,h=>by simp only[v8,ew]at h;subst h;simp
 |b::r,H0,h=>by
  simp only[v8]at h
  split at h
  case h_2=>simp at h
  rename_i o f
  split at h
  case h_2=>simp at h
  rename_i a t d e;simp only[ew]at h;subst h;obtain⟨i1,i2⟩:=J4 e;refine⟨by simp[i1],fun p c=>?_⟩;simp only[b3,List.zip_cons_cons,bV]at c;rcases c with rfl|c
  ·simp only[Wt d];exact f
  ·exact i2 p c
end
mutual
def QD:AV->List Nat->List Nat
 | .p _,acc=>acc
 | .ptr b _,acc| .cd b _ _ _ _,acc| .sl b _ _ _ _,acc| .map b,acc=>b::acc
 | .func _ fi ca,acc=>uD fi (uD ca acc)
 | .st _ fs,acc| .aE fs,acc=>uD fs acc
def uD:List AV->List Nat->List Nat
 |[],acc=>acc
 |v::r,acc=>QD v (uD r acc)
end
def azm:Obj->List Nat
 | .box _ t=>QD t []
 | .arr _ _ _ es=>uD es []
 |_=>[]
def D1(H:aj):Nat->List Nat->List Nat->List Nat
 |0,_,acc=>acc
 |_,[],acc=>acc
 |n+1,b::r,acc=>match lh b acc 0 with
  |some _=>D1 H n r acc
  |none=>D1 H n (match H[b]? with
   |some o=>azm o++r
   |none=>r) (b::acc)
def nodupB:List Nat->Bool
 |[]=>true
 |x::r=>(match lh x r 0 with
  |some _=>false
  |none=>true)&&nodupB r
theorem Kb{b:Nat}:∀{l:List Nat}{i:Nat},lh b l i=none->b∉l
 |[],_,_=>by simp
 |x::r,i,h=>by
  simp only[lh]at h;cases a:ed x b
  ·simp only[a,cond_false]at h;have:=Kb h;simp only[bV,not_or];refine⟨fun e=>?_,this⟩;subst e;rw[ej]at a;cases a
  ·simp[a]at h
theorem Ki:∀{l:List Nat},nodupB l=true->l.Nodup
 |[],_=>ea
 |x::r,h=>by
  simp only[nodupB,av]at h;rw[dp];refine⟨?_,Ki h.2⟩;have a:=h.1
  split at a
  ·simp at a
  ·rename_i b;exact Kb b
def AO(H:aj)(b v:Nat):Bool:=match H[b]? with
 |some .hole|none=>false
 |some (.arr _ aC _ _)=>ec v aC
 |some _=>true
theorem azo{H:aj}{b v:Nat}(h:AO H b v=true):aI H (b,v):=by
 unfold AO at h
 split at h
 ·simp at h
 ·simp at h
 ·rename_i k aC ai c a;exact⟨_,a,c7 h⟩
 ·rename_i o d e a;refine⟨o,a,?_⟩;cases o with
  |hole=>exact(d rfl).elim
  |arr k aC ai c=>exact(e _ _ _ _ rfl).elim
  |_=>trivial
mutual
def rX(H:aj):AV->Bool
 | .p _=>true
 | .ptr b _| .map b=>AO H b 0
 | .cd b aC _ _ _| .sl b aC _ _ _=>AO H b aC
 | .func _ fi ca=>nh H fi&&nh H ca
 | .st _ fs| .aE fs=>nh H fs
def nh(H:aj):List AV->Bool
 |[]=>true
 |v::r=>rX H v&&nh H r
end
mutual
theorem CO{H:aj}:∀{a:AV},rX H a=true->aG (aI H) a
 | .p _,_=>by simp[aG]
 | .ptr _ _,h| .map _,h| .cd _ _ _ _ _,h| .sl _ _ _ _ _,h=>by
  simp only[rX]at h;simp only[aG];exact azo h
 | .func _ fi ca,h=>by
  simp only[rX,av]at h;simp only[aG];exact⟨pA h.1,pA h.2⟩
 | .st _ _,h| .aE _,h=>by
  simp only[rX]at h;simp only[aG];exact pA h
theorem pA{H:aj}:∀{l:List AV},nh H l=true->aV (aI H) l
 |[],_=>by simp[aV]
 |v::r,h=>by
  simp only[nh,av]at h;simp only[aV];exact⟨CO h.1,pA h.2⟩
end
def zD(H:aj):Obj->Bool
 | .box _ t=>rX H t
 | .arr _ _ _ es=>nh H es
 | .cZ _ vs=>nh H vs
 | .loop _=>false
 |_=>true
theorem Ke{H:aj}{o:Obj}(h:zD H o=true):o.refs (aI H):=by
 cases o<;>simp only[zD]at h<;>simp only[Obj.refs]
 ·exact CO h
 ·exact pA h
 ·exact pA h
 ·simp at h
def rO(p:Obj->Bool):List Obj->Bool
 |[]=>true
 |o::r=>p o&&rO p r
theorem vT{p:Obj->Bool}:∀{l:List Obj},rO p l=true->∀o∈l,p o=true
 |[],_,o,h=>by simp at h
 |a::r,h,o,b=>by
  simp only[rO,av]at h;rcases bV.1 b with rfl|b
  ·exact h.1
  ·exact vT h.2 o b
def zz(n:Nat):List Nat->Bool
 |[]=>true
 |x::r=>ec (x+1) n&&zz n r
theorem DG{n:Nat}:∀{l:List Nat},zz n l=true->∀x∈l,x<n
 |[],_,o,h=>by simp at h
 |a::r,h,o,b=>by
  simp only[zz,av]at h;rcases bV.1 b with rfl|b
  ·exact c7 h.1
  ·exact DG h.2 o b
def zu:Obj->Bool
 | .hole=>false
 |_=>true
def wE(run:List AV->aj->Option (AV×aj))(args:List AV)(H:aj):Option aY:=
 let bs:=D1 H 1000 (uD args []) []
 match mn bs args,v8 bs H bs with
 |some fP,some H0=>bif nodupB bs&&(zz H.length bs&&(nh H0 fP&&rO (zD H0) H0))then
  match run fP H0 with
  |some (v0,H1)=>bif ec H0.length H1.length&&(rO zu (H1.take H0.length))then some (dy bs H.length H0 H1 v0)else none
  |none=>none
  else none
 |_,_=>none
theorem CF{P:a4}{f:a3}{run:List AV->aj->Option (AV×aj)}(n:∀args H v H',run args H=some (v,H')->cC P f H args H' v){args:List AV}{H:aj}{e:aY}(h:wE run args H=some e):
 sq P f args H.length e/\oM H e:=by
 unfold wE at h;dsimp only at h
 split at h
 case h_2=>simp at h
 rename_i fP H0 g i;simp only[ap,eq,av]at h;obtain⟨⟨g1,g2,g3,g4⟩,h⟩:=h
 split at h
 case h_2=>simp at h
 rename_i q H1 j;simp only[eq,ew]at h;obtain⟨⟨g5,g7⟩,rfl⟩:=h;obtain⟨k1,k2⟩:=J4 (base:=H.length) i;have hf:=(n _ _ _ _ j).frame _ H.length k1.symm (Ki g1) (DG g2) (c7 g5) (pA g3) (fun b o k=>Ke (vT g4 o (c6 k)));rw[pz g]at hf;refine⟨hf,k2,fun p d=>?_⟩;simp only[dy]at d;have c:=ck d;refine⟨DG g2 _ c.1,fun l=>?_⟩;obtain⟨o,m,a⟩:=bW.1 c.2;rw[l]at a;have:=vT g7 o m;rw[XZ.1 a]at this;simp[zu]at this
mutual
theorem wF:∀v:AV,cL (fun i=>i) v=v
 | .p _| .sl .. | .cd .. | .ptr .. | .map _=>rfl
 | .st u vs=>by simp only[cL,pE vs]
 | .aE vs=>by simp only[cL,pE vs]
 | .func f a b=>by simp only[cL,pE a,pE b]
theorem pE:∀l:List AV,cO (fun i=>i) l=l
 |[]=>rfl
 |v::l=>by simp only[cO,wF v,pE l]
end
theorem Kz:∀e:Env,ub (fun i=>i) e=e
 |[]=>rfl
 |(x,v)::r=>by simp only[ub,wF v,Kz r]
theorem PK(o:Obj):cW (fun i=>i) o=o:=by
 cases o<;>simp only[cW,wF,pE,Kz]
theorem Ai(n:Nat):sig (bv n) n=fun i=>i:=by
 funext i
 by_cases h:i<n
 ·rw[tL (by simpa using h)];simp
 ·rw[tM (by simpa using h)];simp;omega
def fJ(H:aj):List (Nat×Obj):=(bv H.length).zip H
theorem uo{H:aj}{p:Nat×Obj}(h:p∈fJ H):H[p.1]?=some p.2:=by
 rw[fJ,bp]at h;obtain⟨i,hi,a⟩:=h;rw[ce]at a;subst a;simp
def AF(H:aj):Env->Bool
 |[]=>true
 |(_,v)::r=>rX H v&&AF H r
theorem Ni{H:aj}:∀{e:Env},AF H e=true->∀x,aG (aI H) (aP e x)
 |[],_,x=>by simp[aP,aG]
 |(y,v)::r,h,x=>by
  simp only[AF,av]at h;simp only[aP]
  split
  ·exact CO h.1
  ·exact Ni h.2 x
def OR(H:aj):Obj->Bool
 | .loop L=>AF H L.env
 |o=>zD H o
theorem WY{H:aj}{o:Obj}(h:OR H o=true):o.refs (aI H):=by
 cases o<;>first
  |exact Ke h
  |exact Ni h
def Dq(run:Nat->aj->List AV->Option (aj×AV))(b:Nat)(args:List AV)(H:aj):Option aY:=
 bif nh H args&&rO (OR H) H then
  match run b H args with
  |some (H1,v)=>bif ec H.length H1.length&&(rO zu (H1.take H.length))then some {v,al:=fJ H,aK:=(bv H.length).zip (H1.take H.length),aX:=H1.drop H.length}else none
  |none=>none
 else none
theorem V1{P:a4}{run:Nat->aj->List AV->Option (aj×AV)}(k:∀b H args H' v,run b H args=some (H',v)->fx P b H args H' v){b:Nat}{args:List AV}{H:aj}{e:aY}(h:Dq run b args H=some e):
 oI P b args H.length e/\oM H e:=by
 unfold Dq at h;simp only[ap,eq,av]at h;obtain⟨⟨g3,g4⟩,h⟩:=h
 split at h
 case h_2=>simp at h
 rename_i H1 f g;simp only[eq,ew]at h;obtain⟨⟨g5,g7⟩,rfl⟩:=h;have hf:=(k _ _ _ _ _ g).frame (bv H.length) H.length s_ b4 (fun b a=>by simpa using a) (c7 g5) (pA g3) (fun b o a=>WY (vT g4 o (c6 a)));have e:dy (bv H.length) H.length H H1 f={v:=f,al:=fJ H,aK:=(bv H.length).zip (H1.take H.length),aX:=H1.drop H.length}:=by
  simp only[dy,Ai,wF];rw[show(cW fun i=>i)=id from funext PK,b2,b2,b2,fJ]
 rw[e,Ai,pE]at hf;refine⟨hf,fun p c=>uo c,fun p c=>?_⟩;have d:=ck c;refine⟨by simpa using d.1,fun j=>?_⟩;have:=vT g7 p.2 d.2;rw[j]at this;simp[zu]at this
end Go.aq
namespace Go.aq
variable[Gl]
inductive RT where
 |lf
 |vl (v:AV)
 |nd (a b c d:RT)
inductive Q4 where|a|b|c|d
def q4(n:Nat):Q4:=match n with
 |0=>.a
 |1=>.b
 |2=>.c
 |_=>.d
def pathOf:Nat->Nat->List Q4
 |0,_=>[]
 |k+1,n=>q4 (n% 4)::pathOf k (n/4)
noncomputable def wQ(p:List Q4):RT->AV:=
 eb (motive:=fun _=>RT->AV) (fun R=>RT.rec (motive:=fun _=>AV) (.p .undef) (fun v=>v) (fun _ _ _ _ _ _ _ _=>.p .undef) R)
  (fun q _ e R=>RT.rec (motive:=fun _=>AV) (.p .undef) (fun _=>.p .undef) (fun a b c d _ _ _ _=>Q4.rec (motive:=fun _=>AV) (e a) (e b) (e c) (e d) q) R) p
noncomputable def E6(v:AV)(p:List Q4):RT->RT:=
 eb (motive:=fun _=>RT->RT) (fun _=>.vl v)
  (fun q _ e R=>RT.rec (motive:=fun _=>RT)
   (Q4.rec (motive:=fun _=>RT) (.nd (e .lf) .lf .lf .lf) (.nd .lf (e .lf) .lf .lf) (.nd .lf .lf (e .lf) .lf) (.nd .lf .lf .lf (e .lf)) q)
   (fun _=>Q4.rec (motive:=fun _=>RT) (.nd (e .lf) .lf .lf .lf) (.nd .lf (e .lf) .lf .lf) (.nd .lf .lf (e .lf) .lf) (.nd .lf .lf .lf (e .lf)) q)
   (fun a b c d _ _ _ _=>Q4.rec (motive:=fun _=>RT) (.nd (e a) b c d) (.nd a (e b) c d) (.nd a b (e c) d) (.nd a b c (e d)) q) R) p
noncomputable def ky(k:Nat)(R:RT)(n:Nat):AV:=bif ec (n+1) (4^k)then wQ (pathOf k n) R else .p .undef
noncomputable def xl(k:Nat)(R:RT)(n:Nat)(v:AV):RT:=E6 v (pathOf k n) R
theorem Lu:∀(p:List Q4),wQ p .lf=.p .undef
 |[]=>rfl
 |_::_=>rfl
theorem JS(v:AV):∀(p:List Q4)(R:RT),wQ p (E6 v p R)=v
 |[],_=>rfl
 |x::p,R=>by
  cases R<;>cases x<;>exact JS v p _
theorem I1(v:AV):∀(p q:List Q4)(R:RT),p.length=q.length->p≠q->wQ p (E6 v q R)=wQ p R
 |[],[],R,_,h=>(h rfl).elim
 |[],_::_,R,h,_=>by simp at h
 |_::_,[],R,h,_=>by simp at h
 |x::p,y::q,R,h,f=>by
  have g:=fun R(f:p≠q)=>I1 v p q R (by simpa using h) f;have i:=Lu p;cases R with
  |nd a b c d=>
   cases x<;>cases y<;>first
    |rfl
    |exact g _ (fun e=>f (by rw[e]))
  |_=>
   cases x<;>cases y<;>first
    |exact i
    |exact(g _ (fun e=>f (by rw[e]))).trans i
theorem BP:∀k n,(pathOf k n).length=k
 |0,_=>rfl
 |k+1,n=>by simp[pathOf,BP k]
theorem aHA{m n:Nat}(a:m<4)(b:n<4)(h:q4 m=q4 n):m=n:=by
 have hc:∀n,n<4->n=0\/n=1\/n=2\/n=3:=o_
 rcases hc m a with rfl|rfl|rfl|rfl<;>rcases hc n b with rfl|rfl|rfl|rfl<;>simp[q4]at h<;>rfl
theorem JU:∀(k m n:Nat),m<4^k->n<4^k->pathOf k m=pathOf k n->m=n
 |0,m,n,a,b,_=>by simp at a b;omega
 |k+1,m,n,a,b,h=>by
  simp only[pathOf,List.cons.injEq]at h;have c:=aHA (eo _ o_) (eo _ o_) h.1;have d:=JU k (m/4) (n/4) (by rw[en]at a;omega) (by rw[en]at b;omega) h.2;omega
theorem M6(k n:Nat):ky k .lf n=.p .undef:=by
 simp[ky,Lu]
theorem Zn{a b:Nat}(h:a<=b):ec a b=true:=ei h
theorem ND{a b:Nat}(h:¬a<=b):ec a b=false:=by
 cases c:ec a b
 ·rfl
 ·exact(h (c7 c)).elim
theorem Cr(k:Nat)(R:RT)(d x:Nat)(v:AV)(h:d<4^k):ky k (xl k R d v) x=if x=d then v else ky k R x:=by
 unfold ky xl
 by_cases hx:x+1<=4^k
 ·simp only[Zn hx,cond_true]
  by_cases a:x=d
  ·subst a;rw[JS,if_pos rfl]
  ·rw[if_neg a,I1 _ _ _ _ (by rw[BP,BP]) (fun e=>a (JU k x d o_ h e))]
 ·have:x≠d:=by omega
  simp only[ND hx,cond_false,this,if_false]
def Rel(k:Nat)(e:Env)(R:RT):Prop:=∀x,aP e x=ky k R x
noncomputable def ly(k:Nat)(d:Option Nat)(v:AV)(R:RT):Option RT:=
 match d with
 |none=>some R
 |some d=>bif ec (d+1) (4^k)then some (xl k R d v)else none
theorem vE{k:Nat}{d:Option Nat}{v:AV}{R a:RT}{e:Env}(h:ly k d v R=some a)(b:Rel k e R):Rel k (put d v e) a:=by
 unfold ly at h
 split at h
 ·simp only[ew]at h;subst h;exact b
 ·simp only[ap,eq,ew]at h;obtain⟨c,rfl⟩:=h;intro x;rw[Cr _ _ _ _ _ (by have:=c7 c;omega)];simp only[put,aP]
  split
  ·rfl
  ·exact b x
noncomputable def kl(k:Nat)(R:RT):ay->AV
 | .tmp t=>ky k R t
 | .const v=>.p (ofConst v)
 | .global g=>.p (Gl.g g)
 | .func f=>.p (.func f [] [])
theorem zP{k:Nat}{R:RT}{e:Env}(a:Rel k e R):kl k R=ev e:=by
 funext o;cases o<;>simp[kl,ev,a _]
def qe(H:aj)(e:aY):aj:=
 match e.aK,e.aX with
 |[],[]=>H
 |_,_=>bc H e.aK++e.aX
theorem LJ(H:aj)(e:aY):qe H e=bc H e.aK++e.aX:=by
 unfold qe;split
 ·rename_i a b;simp[a,b,bc]
 ·rfl
structure j0 where
 cP:a3->List AV->aj->Option (AV×aj)
 cD:a3->List AV->aj->Option aY
 cY:Nat->aj->List AV->Option (aj×AV)
 cI:AV->Nat->aj->Option aj
 AB:Nat->List AV->aj->Option aY
structure kz(P:a4)(B:j0):Prop where
 cP:∀f args H v H',B.cP f args H=some (v,H')->∀K:AV->aj->Prop,K v H'->ie P false f args H K
 cD:∀f args H e,B.cD f args H=some e->∀K:aY->Prop,K e->ir P f args H K
 cY:∀b H args H' v,B.cY b H args=some (H',v)->fx P b H args H' v
 cI:∀it b H H',B.cI it b H=some H'->∀K:aj->Prop,K H'->jq P it b H K
 AB:∀b args H e,B.AB b args H=some e->oI P b args H.length e/\oM H e
section
variable(P:a4)(ag:a3->Bool)(B:j0)(k:Nat)
noncomputable def xi(o:Oper)(R:RT)(H:aj):Option (RT×aj):=
 match o.op with
 | .call {callee:=.value f,args,.. }=>match(match kl k R f with
  | .p (.func g fi ca)=>B.cP g (fi.map .p++args.toList.map (kl k R)++ca.map .p) H
  | .func g fi ca=>B.cP g (fi++args.toList.map (kl k R)++ca) H
  | .map b=>match B.cY b H (args.toList.map (kl k R))with
   |some (H',v)=>some (v,H')
   |none=>none
  |_=>none)with
  |some (v,H')=>match ly k o.dst v R with
   |some a=>some (a,H')
   |none=>none
  |none=>none
 |_=>match AZ P ag o (kl k R) H with
  |some e=>match ly k o.dst e.v R with
   |some a=>some (a,qe H e)
   |none=>none
  |none=>none
noncomputable def zN(a:Array Oper)(j:Nat)(R:RT):AV:=
 match(a[j]?).bind (·.dst)with
 |some d=>ky k R d
 |none=>.p (.aE [])
noncomputable def nC(b:Array Oper):List Oper->RT->aj->Option (RT×aj)
 |[],R,H=>some (R,H)
 |o::r,R,H=>match o.guard with
  |none=>match xi P ag B k o R H with
   |some (a,H')=>nC b r a H'
   |none=>none
  |some (j,want)=>match zN k b j R with
   | .p (.bool t)=>match t,want with
    |true,true|false,false=>match xi P ag B k o R H with
     |some (a,H')=>nC b r a H'
     |none=>none
    |_,_=>match ly k o.dst (.p (.aE [])) R with
     |some a=>nC b r a H
     |none=>none
   | .p (.aE [])=>match ly k o.dst (.p (.aE [])) R with
    |some a=>nC b r a H
    |none=>none
   |_=>none
noncomputable def wY(o:Oper)(R:RT)(H:aj):Option aY:=
 match o.op with
 | .call {callee:=.value f,args,.. }=>match kl k R f with
  | .p (.func g fi ca)=>B.cD g (fi.map .p++args.toList.map (kl k R)++ca.map .p) H
  | .func g fi ca=>B.cD g (fi++args.toList.map (kl k R)++ca) H
  | .map b=>B.AB b (args.toList.map (kl k R)) H
  |_=>none
 |_=>AZ P ag o (kl k R) H
noncomputable def nj(b:Array Oper):List Oper->Nat->List Touch->RT->aj->Option (RT×aj)
 |[],_,acc,R,H=>bif iJ b acc then some (R,H)else none
 |o::r,i,acc,R,H=>match o.guard with
  |none=>match wY P ag B k o R H with
   |some e=>match ly k o.dst e.v R with
    |some a=>nj b r (i+1) (gl i H.length e acc) a (qe H e)
    |none=>none
   |none=>none
  |some (j,want)=>match zN k b j R with
   | .p (.bool t)=>match t,want with
    |true,true|false,false=>match wY P ag B k o R H with
     |some e=>match ly k o.dst e.v R with
      |some a=>nj b r (i+1) (gl i H.length e acc) a (qe H e)
      |none=>none
     |none=>none
    |_,_=>match ly k o.dst (.p (.aE [])) R with
     |some a=>nj b r (i+1) acc a H
     |none=>none
   | .p (.aE [])=>match ly k o.dst (.p (.aE [])) R with
    |some a=>nj b r (i+1) acc a H
    |none=>none
   |_=>none
abbrev Out:=Option (bA×RT×aj)
def wN(f:RT->aj->Out):Nat->RT->aj->Out
 |0,_,_=>none
 |n+1,R,H=>match f R H with
  |some (.normal,a,H')=>wN f n a H'
  |r=>r
noncomputable def uw(k:Nat)(R:RT):Nat->Env
 |0=>[]
 |n+1=>(n,ky k R n)::uw k R n
def Yl:Nat:=100000
def Ag(j:Option Code):Option bA:=
 match j with
 |none=>some .normal
 |some (.exit id)=>some (.exit id)
 |some .ret=>some .ret
 |_=>none
def E4(b:Nat)(R:RT)(H:aj):Out:=
 match H[b]? with
 |some (.loop L)=>match L.st with
  | .busy=>none
  |_=>match Ag L.pending with
   |some e=>some (e,R,H.set b (.loop {L with st:=.exhausted}))
   |none=>none
 |_=>none
noncomputable def iq(q:Cx):Code->RT->aj->Out
 | .skip,R,H| .label _,R,H=>some (.normal,R,H)
 | .region _ ops draw,R,H=>bif draw then match nj P ag B k ops ops.toList 0 [] R H with
   |some (d,H')=>some (.normal,d,H')
   |none=>none
  else match nC P ag B k ops ops.toList R H with
   |some (d,H')=>some (.normal,d,H')
   |none=>none
 | .seq a b,R,H=>match iq q a R H with
  |some (.normal,d,H')=>iq q b d H'
  |r=>r
 | .cond c a b,R,H=>match kl k R c with
  | .p (.bool t)=>match t with
   |true=>iq q a R H
   |false=>iq q b R H
  |_=>none
 | .block id b,R,H=>match iq q b R H with
  |some (.exit i,d,H')=>bif ed i id then some (.normal,d,H')else some (.exit i,d,H')
  |r=>r
 | .scope b,R,H=>iq q b R H
 | .loop b,R,H=>wN (fun R H=>iq q b R H) Yl R H
 | .rangeFunc f e a b,R,H=>bif ec q.2 H.length&&ec q.1 (4^k)then match B.cI (kl k R f) H.length (H++[.loop ⟨.ready,none,q.1,e.toList,a,b,uw k R (4^k)⟩])with
   |some H'=>E4 H.length R H'
   |none=>none
  else none
 | .exit id,R,H=>some (.exit id,R,H)
 | .ret,R,H=>some (.ret,R,H)
 |_,_,_=>none
end
section
variable{P:a4}{ag:a3->Bool}{B:j0}{k:Nat}
theorem KU(e:aY)(dst:Option Tmp)(env:Env)(H:aj):e.app dst ⟨env,H⟩=⟨put dst e.v env,qe H e⟩:=by
 simp[aY.app,LJ]
theorem aGM(b:kz P B){o:Oper}{R i:RT}{H H':aj}{env:Env}(h:xi P ag B k o R H=some (i,H'))(g:Rel k env R):
 ∃j,Rel k j i/\∀K:St->Prop,K ⟨j,H'⟩->jU P ag false o K ⟨env,H⟩:=by
 unfold xi at h;unfold jU;rw[zP g]at h
 split at h
 ·rename_i f args n c
  split at h
  case h_2=>simp at h
  rename_i v l hc
  split at h
  case h_2=>simp at h
  rename_i m d;simp only[ew,e6]at h;obtain⟨rfl,rfl⟩:=h;refine⟨_,vE d g,fun K a=>?_⟩;simp only[c]
  split at hc
  ·rename_i hf;simp only[hf];exact b.cP _ _ _ _ _ hc _ a
  ·rename_i hf;simp only[hf];exact b.cP _ _ _ _ _ hc _ a
  ·rename_i hf
   split at hc
   ·rename_i l s r;simp only[ew,e6]at hc;obtain⟨rfl,rfl⟩:=hc;simp only[hf];exact⟨_,_,b.cY _ _ _ _ _ r,a⟩
   ·simp at hc
  ·simp at hc
 ·rename_i q
  split at h
  case h_2=>simp at h
  rename_i e p
  split at h
  case h_2=>simp at h
  rename_i m d;simp only[ew,e6]at h;obtain⟨rfl,rfl⟩:=h;refine⟨_,vE d g,fun K a=>?_⟩
  split
  ·rename_i f args n c;exact(q _ _ _ c).elim
  ·exact OS p (by rw[KU];exact a)
theorem KW{a:Array Oper}{j:Nat}{R:RT}{env:Env}(b:Rel k env R):zN k a j R=guardOf a j env:=by
 unfold zN guardOf;split
 ·rename_i h;simp only[h];exact(b _).symm
 ·rename_i h;simp only[h]
theorem Dv(f:kz P B){c:Array Oper}:∀{l:List Oper}{R a:RT}{H H':aj}{env:Env},nC P ag B k c l R H=some (a,H')->Rel k env R->
 ∃b,Rel k b a/\∀K:St->Prop,K ⟨b,H'⟩->ig P ag false c l K ⟨env,H⟩
 |[],R,a,H,H',env,h,d=>by
  simp only[nC,ew,e6]at h;obtain⟨rfl,rfl⟩:=h;exact⟨env,d,fun K g=>g⟩
 |o::l,R,a,H,H',env,h,d=>by
  have run:(match xi P ag B k o R H with
    |some (a,H')=>nC P ag B k c l a H'
    |none=>none)=some (a,H')->∃b,Rel k b a/\∀K:St->Prop,K ⟨b,H'⟩->jU P ag false o (ig P ag false c l K) ⟨env,H⟩:=by
   intro h
   split at h
   case h_2=>simp at h
   rename_i n H1 e;obtain⟨u,a1,a2⟩:=aGM f e d;obtain⟨r,b1,q⟩:=Dv f h a1;exact⟨r,b1,fun K g=>a2 _ (q K g)⟩
  have skip:(match ly k o.dst (.p (.aE [])) R with
    |some a=>nC P ag B k c l a H
    |none=>none)=some (a,H')->∃b,Rel k b a/\∀K:St->Prop,K ⟨b,H'⟩->ig P ag false c l K ⟨put o.dst (.p (.aE [])) env,H⟩:=by
   intro h
   split at h
   case h_2=>simp at h
   rename_i n e;exact Dv f h (vE e d)
  simp only[nC]at h;simp only[ig]
  split at h
  ·rename_i i;simp only[i];exact run h
  ·rename_i j s i;simp only[i];rw[KW d]at h
   split at h
   ·rename_i t m;simp only[m];cases t<;>cases s
    ·simpa using run h
    ·simpa using skip h
    ·simpa using skip h
    ·simpa using run h
   ·rename_i m;simp only[m];exact skip h
   ·simp at h
theorem awE(b:kz P B){o:Oper}{R:RT}{H:aj}{e:aY}{env:Env}(h:wY P ag B k o R H=some e)(l:Rel k env R)(K:aY->Prop)(a:K e):jz P ag o ⟨env,H⟩ K:=by
 unfold wY at h;unfold jz;rw[zP l]at h
 split at h
 ·rename_i f args d c;simp only[c]
  split at h
  ·rename_i hf;simp only[hf];exact b.cD _ _ _ _ h _ a
  ·rename_i hf;simp only[hf];exact b.cD _ _ _ _ h _ a
  ·rename_i hf;simp only[hf];obtain⟨g,i⟩:=b.AB _ _ _ _ h;exact⟨e,g,i,a⟩
  ·simp at h
 ·rename_i j
  split
  ·rename_i f args d c;exact(j _ _ _ c).elim
  ·exact OS h a
theorem C0(m:kz P B){f:Array Oper}:∀{l:List Oper}{i:Nat}{b:List Touch}{R a:RT}{H H':aj}{env:Env},nj P ag B k f l i b R H=some (a,H')->Rel k env R->
 ∃c,Rel k c a/\∀K:St->Prop,K ⟨c,H'⟩->gD P ag f l i b K ⟨env,H⟩
 |[],i,b,R,a,H,H',env,h,d=>by
  simp only[nj,ap,eq,ew,e6]at h;obtain⟨g,rfl,rfl⟩:=h;exact⟨env,d,fun K n=>⟨g,n⟩⟩
 |o::l,i,b,R,a,H,H',env,h,d=>by
  have run:(match wY P ag B k o R H with
    |some e=>match ly k o.dst e.v R with
     |some a=>nj P ag B k f l (i+1) (gl i H.length e b) a (qe H e)
     |none=>none
    |none=>none)=some (a,H')->∃c,Rel k c a/\∀K:St->Prop,K ⟨c,H'⟩->jz P ag o ⟨env,H⟩ (fun e=>gD P ag f l (i+1) (gl i H.length e b) K (e.app o.dst ⟨env,H⟩)):=by
   intro h
   split at h
   case h_2=>simp at h
   rename_i e x
   split at h
   case h_2=>simp at h
   rename_i s g;obtain⟨w,b1,u⟩:=C0 m h (vE g d);exact⟨w,b1,fun K n=>awE m x d _ (by rw[KU];exact u K n)⟩
  have skip:(match ly k o.dst (.p (.aE [])) R with
    |some a=>nj P ag B k f l (i+1) b a H
    |none=>none)=some (a,H')->∃c,Rel k c a/\∀K:St->Prop,K ⟨c,H'⟩->gD P ag f l (i+1) b K ⟨put o.dst (.p (.aE [])) env,H⟩:=by
   intro h
   split at h
   case h_2=>simp at h
   rename_i s g;exact C0 m h (vE g d)
  simp only[nj]at h;simp only[gD]
  split at h
  ·rename_i q;simp only[q];exact run h
  ·rename_i j y q;simp only[q];rw[KW d]at h
   split at h
   ·rename_i t r;simp only[r];cases t<;>cases y
    ·simpa using run h
    ·simpa using skip h
    ·simpa using skip h
    ·simpa using run h
   ·rename_i r;simp only[r];exact skip h
   ·simp at h
theorem LP(R:RT):∀(n:Nat),∀x,aP (uw k R n) x=if x<n then ky k R x else .p .undef
 |0,x=>by simp[uw,aP]
 |n+1,x=>by
  simp only[uw,aP,LP R n]
  by_cases h:x=n
  ·subst h;simp
  ·simp only[h,if_false]
   by_cases a:x<n
   ·simp[a,Nat.lt_succ_of_lt a]
   ·have:¬x<n+1:=by omega
    simp[a,this]
theorem Yz(k:Nat)(R:RT)(n:Nat)(h:4^k<=n):ky k R n=.p .undef:=by
 unfold ky;rw[ND o_];rfl
theorem axp{R:RT}{env:Env}(a:Rel k env R):∀x,aP (uw k R (4^k)) x=aP env x:=by
 intro x;rw[LP,a]
 split
 ·rfl
 ·rw[Yz k R x o_]
theorem Yr{j:Option Code}{e:bA}(h:Ag j=some e)(Q:bA->St->Prop)(s:St)(hq:Q e s):je Q j s:=by
 unfold Ag at h;unfold je
 split at h<;>simp at h<;>subst h<;>exact hq
theorem YP{b:Nat}{R a:RT}{H H':aj}{e:bA}{env:Env}(h:E4 b R H=some (e,a,H')):a=R/\∀Q:bA->St->Prop,Q e ⟨env,H'⟩->iE b env Q H:=by
 unfold E4 at h
 split at h
 case h_2=>simp at h
 rename_i L c
 have go:(match Ag L.pending with
   |some e=>some (e,R,H.set b (.loop {L with st:=.exhausted}))
   |none=>none)=some (e,a,H')->L.st≠.busy->a=R/\∀Q:bA->St->Prop,Q e ⟨env,H'⟩->iE b env Q H:=by
  intro h aN
  split at h
  case h_2=>simp at h
  rename_i e' d;simp only[ew,e6]at h;obtain⟨rfl,rfl,rfl⟩:=h;exact⟨rfl,fun Q hq=>by unfold iE;simp only[c];exact⟨aN,Yr d Q _ hq⟩⟩
 split at h
 ·simp at h
 ·rename_i aN;exact go h aN
theorem WO{q:Cx}{b:Code}{Q:bA->St->Prop}{s s':St}(f:∀c:bA->St->Prop,c .normal s'->cj P ag q b c s)(d:cj P ag q (.loop b) Q s'):cj P ag q (.loop b) Q s:=by
 simp only[cj]at d⊢;obtain⟨I,⟨a,t0,hf,hI⟩,g⟩:=d;refine⟨fun n t=>I n t\/(n=a+1/\t=s),⟨a+1,s,.inl rfl,.inr ⟨rfl,rfl⟩⟩,?_⟩;rintro n t (h|⟨rfl,rfl⟩)
 ·obtain⟨e,u,k1,k2⟩:=nN b t _ (g n t h);refine k2 _ ?_;cases e with
  |normal=>
   obtain⟨m,i,g1,g2,g3⟩:=k1;exact⟨m,i,g1,g2,.inl g3⟩
  |exit id=>exact k1
  |ret=>exact k1
 ·exact f _ ⟨a,t0,Nat.lt_succ_self _,hf,.inl hI⟩
theorem WN{q:Cx}{b:Code}{Q:bA->St->Prop}{s s':St}{e:bA}(f:e≠.normal)(d:∀a:bA->St->Prop,a e s'->cj P ag q b a s)(c:Q e s'):cj P ag q (.loop b) Q s:=by
 simp only[cj];refine⟨fun n t=>n=0/\t=s,⟨0,s,.inl rfl,rfl,rfl⟩,?_⟩;rintro n t ⟨rfl,rfl⟩;refine d _ ?_;cases e with
 |normal=>exact(f rfl).elim
 |exit id=>exact c
 |ret=>exact c
theorem Me{q:Cx}{b:Code}{f:RT->aj->Out}(hf:∀{R a:RT}{H H':aj}{e:bA}{env:Env},f R H=some (e,a,H')->Rel k env R->∃c,Rel k c a/\∀Q:bA->St->Prop,Q e ⟨c,H'⟩->cj P ag q b Q ⟨env,H⟩):
 ∀(n:Nat){R a:RT}{H H':aj}{e:bA}{env:Env},wN f n R H=some (e,a,H')->Rel k env R->∃c,Rel k c a/\∀Q:bA->St->Prop,Q e ⟨c,H'⟩->cj P ag q (.loop b) Q ⟨env,H⟩
 |0,R,a,H,H',e,env,h,d=>by simp[wN]at h
 |n+1,R,a,H,H',e,env,h,d=>by
  simp only[wN]at h
  split at h
  ·rename_i o H1 l;obtain⟨g,a1,a2⟩:=hf l d;obtain⟨j,b1,i⟩:=Me hf n h a1;exact⟨j,b1,fun Q hq=>WO a2 (i Q hq)⟩
  ·rename_i m;obtain⟨g,a1,a2⟩:=hf h d;refine⟨g,a1,fun Q hq=>WN ?_ a2 hq⟩;rintro rfl;exact m _ _ h
theorem lK(l:kz P B){q:Cx}:∀{c:Code}{R j:RT}{H H':aj}{e:bA}{env:Env},iq P ag B k q c R H=some (e,j,H')->Rel k env R->
 ∃p,Rel k p j/\∀Q:bA->St->Prop,Q e ⟨p,H'⟩->cj P ag q c Q ⟨env,H⟩
 | .skip,R,j,H,H',e,env,h,d| .label _,R,j,H,H',e,env,h,d| .exit _,R,j,H,H',e,env,h,d| .ret,R,j,H,H',e,env,h,d=>by
  simp only[iq,ew,e6]at h;obtain⟨rfl,rfl,rfl⟩:=h;exact⟨env,d,fun Q hq=>hq⟩
 | .region id ops draw,R,j,H,H',e,env,h,d=>by
  simp only[iq]at h;cases draw
  ·simp only[cond_false]at h
   split at h
   case h_2=>simp at h
   rename_i n H1 m;simp only[ew,e6]at h;obtain⟨rfl,rfl,rfl⟩:=h;obtain⟨g,a1,a2⟩:=Dv l m d;exact⟨g,a1,fun Q hq=>by simp only[cj];exact a2 _ hq⟩
  ·simp only[cond_true]at h
   split at h
   case h_2=>simp at h
   rename_i n H1 m;simp only[ew,e6]at h;obtain⟨rfl,rfl,rfl⟩:=h;obtain⟨g,a1,a2⟩:=C0 l m d;exact⟨g,a1,fun Q hq=>by simp only[cj,if_true];exact a2 _ hq⟩
 | .seq a b,R,j,H,H',e,env,h,d=>by
  simp only[iq]at h
  split at h
  ·rename_i n H1 m;obtain⟨g,a1,a2⟩:=lK l m d;obtain⟨u,b1,s⟩:=lK l h a1;exact⟨u,b1,fun Q hq=>by simp only[cj];exact a2 _ (s Q hq)⟩
  ·rename_i o;obtain⟨g,a1,a2⟩:=lK l h d;refine⟨g,a1,fun Q hq=>by
    simp only[cj];refine a2 _ ?_;cases e with
    |normal=>exact(o _ _ h).elim
    |exit id=>exact hq
    |ret=>exact hq⟩
 | .cond c a b,R,j,H,H',e,env,h,d=>by
  simp only[iq,zP d]at h
  split at h
  case h_2=>simp at h
  rename_i t r;cases t
  ·obtain⟨g,a1,a2⟩:=lK l h d;exact⟨g,a1,fun Q hq=>by simp only[cj,r];exact a2 Q hq⟩
  ·obtain⟨g,a1,a2⟩:=lK l h d;exact⟨g,a1,fun Q hq=>by simp only[cj,r,if_true];exact a2 Q hq⟩
 | .block id b,R,j,H,H',e,env,h,d=>by
  simp only[iq]at h
  split at h
  ·rename_i i n H1 m;obtain⟨g,a1,a2⟩:=lK l m d;cases hi:ed i id
   ·simp only[hi,cond_false,ew,e6]at h;obtain⟨rfl,rfl,rfl⟩:=h;refine⟨g,a1,fun Q hq=>by
     simp only[cj];refine a2 _ ?_;have:i≠id:=fun e=>by subst e;simp[ej]at hi
     simp only[this,if_false];exact hq⟩
   ·simp only[hi,cond_true,ew,e6]at h;obtain⟨rfl,rfl,rfl⟩:=h;refine⟨g,a1,fun Q hq=>by
     simp only[cj];refine a2 _ ?_;simp only[dv hi,if_true];exact hq⟩
  ·rename_i o;obtain⟨g,a1,a2⟩:=lK l h d;refine⟨g,a1,fun Q hq=>by
    simp only[cj];refine a2 _ ?_;cases e with
    |normal=>exact hq
    |exit id=>exact(o _ _ _ h).elim
    |ret=>exact hq⟩
 | .scope b,R,j,H,H',e,env,h,d=>by
  simp only[iq]at h;obtain⟨g,a1,a2⟩:=lK l h d;exact⟨g,a1,fun Q hq=>by simp only[cj];exact a2 Q hq⟩
 | .loop b,R,j,H,H',e,env,h,d=>by
  simp only[iq]at h;exact Me (fun h d=>lK l h d) _ h d
 | .rangeFunc f x a b,R,j,H,H',e,env,h,d=>by
  simp only[iq,ap,eq,av]at h;obtain⟨⟨m,w⟩,h⟩:=h
  split at h
  case h_2=>simp at h
  rename_i H1 hI;obtain⟨rfl,v⟩:=YP (env:=env) h;refine⟨env,d,fun Q hq=>?_⟩;simp only[cj];rw[zP d]at hI;exact⟨c7 m,_,axp d,l.cI _ _ _ _ hI _ (v Q hq)⟩
 | .goto _,_,_,_,_,_,_,h,_=>by simp[iq]at h
 | .refuse _,_,_,_,_,_,_,h,_=>by simp[iq]at h
end
def sC(n:Nat):Nat:=
 match ec n 16,ec n 64,ec n 256,ec n 1024 with
 |true,_,_,_=>2
 |_,true,_,_=>3
 |_,_,true,_=>4
 |_,_,_,true=>5
 |_,_,_,_=>6
noncomputable def wK(k:Nat):Nat->List AV->RT
 |_,[]=>.lf
 |i,v::r=>xl k (wK k (i+1) r) i v
theorem Mr(k:Nat):∀(l:List AV)(i:Nat),i+l.length<=4^k->Rel k (iT i l) (wK k i l)
 |[],i,_=>fun x=>by simp[iT,wK,aP,M6]
 |v::r,i,h=>fun x=>by
  simp only[List.length_cons]at h;rw[wK,Cr _ _ _ _ _ o_];simp only[iT,aP]
  split
  ·rfl
  ·exact Mr k r (i+1) o_ x
noncomputable def wZ(k:Nat):Env->Option RT
 |[]=>some .lf
 |(x,v)::r=>match wZ k r with
  |some R=>bif ec (x+1) (4^k)then some (xl k R x v)else none
  |none=>none
theorem LO(k:Nat):∀{e:Env}{R:RT},wZ k e=some R->Rel k e R
 |[],R,h=>by
  simp only[wZ,ew]at h;subst h;intro x;simp[aP,M6]
 |(y,v)::r,R,h=>by
  simp only[wZ]at h
  split at h
  case h_2=>simp at h
  rename_i c a;simp only[ap,eq,ew]at h;obtain⟨b,rfl⟩:=h;intro x;rw[Cr _ _ _ _ _ (by have:=c7 b;omega)];simp only[aP]
  split
  ·rfl
  ·exact LO k a x
noncomputable def A4(P:a4)(k:Nat)(R:RT)(H:aj):List a5->Option (List AV)
 |[]=>some []
 |r::rs=>match(match r with
  | .tmp t=>some (ky k R t)
  | .cell a T=>match ky k R a with
   | .ptr b path=>match H[b]? with
    |some (.box _ t)=>match eX t path with
     |some v=>bif sE (kindOf P T) (aa v)then some v else none
     |none=>none
    |_=>none
   |_=>none),A4 P k R H rs with
  |some v,some vs=>some (v::vs)
  |_,_=>none
theorem M7{P:a4}{k:Nat}{R:RT}{H:aj}{env:Env}(d:Rel k env R):∀{e:List a5}{vs:List AV},A4 P k R H e=some vs->fL P ⟨env,H⟩ e=some vs
 |[],vs,h=>h
 |r::e,vs,h=>by
  simp only[A4]at h
  split at h
  case h_2=>simp at h
  rename_i v o c f;simp only[ew]at h;subst h;have g:pS P ⟨env,H⟩ r=some v:=by
   cases r with
   |tmp t=>simp only[pS];rw[d];exact c
   |cell a T=>
    simp only[pS];dsimp only at c;rw[<-d]at c
    split at c
    case h_2=>simp at c
    rename_i b n j
    split at c
    case h_2=>simp at c
    rename_i fz t l
    split at c
    case h_2=>simp at c
    rename_i u m;simp only[ap,eq,ew]at c;obtain⟨i,rfl⟩:=c;rw[j];simp only[l,m,(iU i).1,if_true]
  simp only[fL,g,M7 d f]
section
variable(P:a4)(ag:a3->Bool)
noncomputable def Al(B:j0)(fn:Func)(args:List AV)(N:Nat)(H:aj):Option (AV×aj):=
 bif ec args.length fn.ntmps&&ec fn.ntmps (4^sC fn.ntmps)then
  match iq P ag B (sC fn.ntmps) (fn.ntmps,N) (fn.body.getD .skip) (wK (sC fn.ntmps) 0 args) H with
  |some (.exit _,_,_)=>none
  |some (_,R,H')=>match A4 P (sC fn.ntmps) R H' fn.results.toList with
   |some vs=>some (oneOf vs,H')
   |none=>none
  |none=>none
 else none
structure nF where
 jE:a3->Option Func
 AL:a3->List PV->Option PV
 AM:a3->List AV->aj->Option (AV×aj)
 lS:a3->a3->Nat
 uC:a3->List AV->aj->Option (List (Nat×Obj)×PV)
noncomputable def qy(pl:nF)(B:a3->j0)(f:a3)(vs:List PV):Option PV:=
 match pl.AL f vs with
 |some v=>some v
 |none=>match pl.jE f with
  |some fn=>match Al P ag (B f) fn (vs.map .p) 0 []with
   |some (v,H)=>eB H 9 v
   |none=>none
  |none=>none
noncomputable def oX(pl:nF)(B:a3->j0)(f:a3)(args:List AV)(H:aj):Option (AV×aj):=
 match pl.AM f args H with
 |some r=>some r
 |none=>match pl.jE f with
  |some fn=>Al P ag (B f) fn args H.length H
  |none=>none
noncomputable def zK(B:j0)(b:Nat)(H:aj)(args:List AV):Option (aj×AV):=
 match H[b]? with
 |some (.loop L)=>bif ed args.length L.params.length&&(L.params.all (fun x=>decide (x<L.n))&&codeOk fit L.n L.assign&&codeOk fit L.n L.body)then
  match wZ (sC L.n) (rF L.params args L.env)with
  |some R=>match iq P ag B (sC L.n) (L.n,H.length) L.assign R H with
   |some (.normal,f,H1)=>match H1[b]? with
    |some (.loop c)=>match c.st with
     | .ready=>match iq P ag B (sC L.n) (L.n,H.length) L.body f (H1.set b (.loop {c with st:=.busy}))with
      |some (e,_,a)=>match a[b]? with
       |some (.loop d)=>some (a.set b (.loop {d with st:=if(ic e).isNone then .ready else .done,pending:=ic e}),.p (.bool (ic e).isNone))
       |_=>none
      |none=>none
     |_=>none
    |_=>none
   |_=>none
  |none=>none
  else none
 |_=>none
noncomputable def EI(pl:nF)(B:a3->j0)(it:AV)(b:Nat)(H:aj):Option aj:=
 match it with
 | .p (.func g fi ca)=>match oX P ag pl B g (fi.map .p++[.map b]++ca.map .p) H with
  |some (_,H')=>some H'
  |none=>none
 | .func g fi ca=>match oX P ag pl B g (fi++[.map b]++ca) H with
  |some (_,H')=>some H'
  |none=>none
 |_=>none
noncomputable def Es(pl:nF)(B:a3->j0)(c f:a3)(args:List AV)(H:aj):Option (AV×aj):=
 match pl.uC f args H with
 |some (_,v)=>some (.p v,H)
 |none=>match pl.lS c f with
 |0=>match eQ args with
  |some vs=>match qy P ag pl B f vs with
   |some v=>some (.p v,H)
   |none=>none
  |none=>oX P ag pl B f args H
 |1=>oX P ag pl B f args H
 |3=>match wE (oX P ag pl B f) args H with
  |some e=>some (e.v,qe H e)
  |none=>none
 |_=>match nD H args with
  |some (vs,H1)=>match qy P ag pl B f vs with
   |some v=>some (.p v,H1)
   |none=>none
  |none=>none
noncomputable def Er(pl:nF)(B:a3->j0)(c f:a3)(args:List AV)(H:aj):Option aY:=
 match pl.uC f args H with
 |some (al,v)=>some {v:=.p v,al}
 |none=>match pl.lS c f with
 |3=>wE (oX P ag pl B f) args H
 |_=>match eQ args with
 |some vs=>match qy P ag pl B f vs with
  |some v=>some {v:=.p v}
  |none=>none
 |none=>match oH H args with
  |some (vs,bs)=>match lL H bs with
   |some (al,aK)=>match qy P ag pl B f vs with
    |some v=>some {v:=.p v,al,aK}
    |none=>none
   |none=>none
  |none=>wE (oX P ag pl B f) args H
def tP:j0:=⟨fun _ _ _=>none,fun _ _ _=>none,fun _ _ _=>none,fun _ _ _=>none,fun _ _ _=>none⟩
noncomputable def kO(pl:nF):Nat->a3->j0
 |0,_=>tP
 |n+1,c=>⟨Es P ag pl (kO pl n) c,Er P ag pl (kO pl n) c,zK P ag (kO pl n c),EI P ag pl (kO pl n),Dq (zK P ag (kO pl n c))⟩
end
structure oC(P:a4)(pl:nF):Prop where
 mix:P.follows .mixedOrders=true
 jE:∀f fn,pl.jE f=some fn->au P f fn
 AL:∀f vs v,pl.AL f vs=some v->aB P f vs v
 AM:∀f args H v H',pl.AM f args H=some (v,H')->cC P f H args H' v
 uC:∀f args H al v,pl.uC f args H=some (al,v)->D9 P f args al v/\∀p∈al,H[p.1]?=some p.2
section
variable{P:a4}{ag:a3->Bool}{B1:j0}{B:a3->j0}{pl:nF}
theorem LG(d:kz P B1){fn:Func}{args:List AV}{N:Nat}{H H':aj}{v:AV}(h:Al P ag B1 fn args N H=some (v,H')):
 args.length<=fn.ntmps/\∃e a vs,(match e with
  |bA.exit _=>False
  |_=>True)/\fL P ⟨a,H'⟩ fn.results.toList=some vs/\oneOf vs=v/\∀Q:bA->St->Prop,Q e ⟨a,H'⟩->cj P ag (fn.ntmps,N) (fn.body.getD .skip) Q ⟨iT 0 args,H⟩:=by
 unfold Al at h;simp only[ap,eq,av]at h;obtain⟨⟨b,c⟩,h⟩:=h;have b:=c7 b;have c:=c7 c;refine⟨b,?_⟩
 split at h
 ·simp at h
 ·rename_i e R j f hc
  split at h
  case h_2=>simp at h
  rename_i vs g;simp only[ew,e6]at h;obtain⟨rfl,rfl⟩:=h;obtain⟨a,a1,a2⟩:=lK d hc (Mr _ args 0 o_);refine⟨e,a,vs,?_,M7 a1 g,rfl,a2⟩;cases e with
  |exit i=>exact f i rfl
  |_=>trivial
 ·simp at h
theorem vI(a:oC P pl)(j:∀c,kz P (B c)){f:a3}{vs:List PV}{v:PV}(h:qy P ag pl B f vs=some v):aB P f vs v:=by
 unfold qy at h
 split at h
 ·rename_i v' hk;simp only[ew]at h;subst h;exact a.AL _ _ _ hk
 ·split at h
  case h_2=>simp at h
  rename_i fn hf
  split at h
  case h_2=>simp at h
  rename_i v' H' k;obtain⟨b,e,m,l,d,g,rfl,i⟩:=LG (j _) k;exact AJ ag (a.jE _ _ hf) a.mix (by simpa using b) (i _ ⟨d,l,g,h⟩)
theorem rj(a:oC P pl)(j:∀c,kz P (B c)){f:a3}{args:List AV}{H H':aj}{v:AV}(h:oX P ag pl B f args H=some (v,H')):cC P f H args H' v:=by
 unfold oX at h
 split at h
 ·rename_i r hk;simp only[ew]at h;subst h;exact a.AM _ _ _ _ _ hk
 ·split at h
  case h_2=>simp at h
  rename_i fn hf;obtain⟨b,e,l,k,d,g,rfl,i⟩:=LG (j _) h;exact Qy ag (a.jE _ _ hf) a.mix b (i _ ⟨d,k,g,rfl,.inl rfl⟩)
theorem KQ{args:List AV}{vs:List PV}(h:eQ args=some vs):args=vs.map .p:=mh h
theorem Zf(b:oC P pl)(d:∀c,kz P (B c)){c f:a3}{args:List AV}{H H':aj}{v:AV}(h:Es P ag pl B c f args H=some (v,H'))(K:AV->aj->Prop)(a:K v H'):ie P false f args H K:=by
 unfold Es at h
 split at h
 ·rename_i al v' hx;simp only[ew,e6]at h;obtain⟨rfl,rfl⟩:=h;obtain⟨i,j⟩:=b.uC _ _ _ _ _ hx;exact .inr ⟨rfl,.inr (.inr (.inr ⟨al,v',i,j,a⟩))⟩
 split at h
 ·split at h
  ·rename_i vs m
   split at h
   case h_2=>simp at h
   rename_i v' g;simp only[ew,e6]at h;obtain⟨rfl,rfl⟩:=h;exact .inl ⟨vs,v',KQ m,vI b d g,a⟩
  ·exact .inr ⟨rfl,.inr (.inl ⟨H',v,rj b d h,a⟩)⟩
 ·exact .inr ⟨rfl,.inr (.inl ⟨H',v,rj b d h,a⟩)⟩
 ·split at h
  case h_2=>simp at h
  rename_i e k;simp only[ew,e6]at h;obtain⟨rfl,rfl⟩:=h;obtain⟨i,j⟩:=CF (fun args H v H' g=>rj b d g) k;exact .inr ⟨rfl,.inr (.inr (.inl ⟨e,i,j,by rw[<-LJ];exact a⟩))⟩
 ·split at h
  case h_2=>simp at h
  rename_i vs H1 l
  split at h
  case h_2=>simp at h
  rename_i v' g;simp only[ew,e6]at h;obtain⟨rfl,rfl⟩:=h;exact .inr ⟨rfl,.inl ⟨vs,H1,v',l,vI b d g,a⟩⟩
theorem Zg(i:oC P pl)(j:∀c,kz P (B c)){c f:a3}{args:List AV}{H:aj}{e:aY}(h:Er P ag pl B c f args H=some e)(K:aY->Prop)(g:K e):ir P f args H K:=by
 unfold Er at h
 split at h
 ·rename_i al v' hx;simp only[ew]at h;subst h;obtain⟨b,d⟩:=i.uC _ _ _ _ _ hx;exact .inr (.inr (.inr ⟨al,v',b,d,g⟩))
 split at h
 ·obtain⟨b,d⟩:=CF (fun args H v H' a=>rj i j a) h;exact .inr (.inr (.inl ⟨e,b,d,g⟩))
 split at h
 ·rename_i vs m
  split at h
  case h_2=>simp at h
  rename_i v' a;simp only[ew]at h;subst h;exact .inl ⟨vs,v',KQ m,vI i j a,g⟩
 ·split at h
  case h_2=>
   obtain⟨b,d⟩:=CF (fun args H v H' a=>rj i j a) h;exact .inr (.inr (.inl ⟨e,b,d,g⟩))
  rename_i vs bs l
  split at h
  case h_2=>simp at h
  rename_i al aK k
  split at h
  case h_2=>simp at h
  rename_i v' a;simp only[ew]at h;subst h;exact .inr (.inl ⟨vs,bs,al,aK,v',l,k,vI i j a,g⟩)
theorem Ky(n:oC P pl)(a:kz P B1){b:Nat}{H H':aj}{args:List AV}{v:AV}(h:zK P ag B1 b H args=some (H',v)):fx P b H args H' v:=by
 unfold zK at h
 split at h
 case h_2=>simp at h
 rename_i L g;simp only[ap,eq,av]at h;obtain⟨⟨d,f⟩,h⟩:=h
 split at h
 case h_2=>simp at h
 rename_i R k
 split at h
 case h_2=>simp at h
 rename_i r H1 l
 split at h
 case h_2=>simp at h
 rename_i p i
 split at h
 case h_2=>simp at h
 rename_i aN
 split at h
 case h_2=>simp at h
 rename_i e s o m
 split at h
 case h_2=>simp at h
 rename_i q j;simp only[ew,e6]at h;obtain⟨rfl,rfl⟩:=h;obtain⟨t,a1,a2⟩:=lK a l (LO _ k);obtain⟨u,b1,c⟩:=lK a m a1;refine Qz ag n.mix g (dv d) (by simpa only[av]using f) ?_;unfold ze;refine a2 _ ?_;simp only[yn,i];refine⟨aN,c _ ?_⟩;simp only[tD,j];exact⟨trivial,.inl rfl⟩
theorem Ys(g:oC P pl)(e:∀c,kz P (B c)){it:AV}{b:Nat}{H H':aj}(h:EI P ag pl B it b H=some H')(K:aj->Prop)(f:K H'):jq P it b H K:=by
 unfold EI at h
 split at h
 ·split at h
  case h_2=>simp at h
  rename_i v a d;simp only[ew]at h;subst h;exact⟨a,v,rj g e d,f⟩
 ·split at h
  case h_2=>simp at h
  rename_i v a d;simp only[ew]at h;subst h;exact⟨a,v,rj g e d,f⟩
 ·simp at h
theorem tz(a:oC P pl):∀n c,kz P (kO P ag pl n c)
 |0,_=>⟨fun _ _ _ _ _ h=>by simp[kO,tP]at h,fun _ _ _ _ h=>by simp[kO,tP]at h,fun _ _ _ _ _ h=>by simp[kO,tP]at h,fun _ _ _ _ h=>by simp[kO,tP]at h,fun _ _ _ _ h=>by simp[kO,tP]at h⟩
 |n+1,c=>⟨fun _ _ _ _ _ h=>Zf a (tz a n) h,fun _ _ _ _ h=>Zg a (tz a n) h,fun _ _ _ _ _ h=>Ky a (tz a n c) h,fun _ _ _ _ h=>Ys a (tz a n) h,fun _ _ _ _ h=>V1 (fun _ _ _ _ _ b=>Ky a (tz a n c) b) h⟩
theorem reckon{f:a3}{vs:List PV}{v:PV}(n:Nat)(a:oC P pl)(h:qy P ag pl (kO P ag pl n) f vs=some v):aB P f vs v:=vI a (tz a n) h
end
section
variable{P:a4}{ag:a3->Bool}
theorem aB.c8{f:a3}{args d:List PV}{v v':PV}(h:aB P f args v)(g:bD d args)(i:Wk v v'):aB P f d v':=by
 rcases h with h|h
 ·refine .inl ⟨h.1,fun w ad a j k c=>(h.2 w ad a j k (br.c8 _ _ _ g c)).mono ?_⟩;rintro e w' ⟨b,aH,k1,k2,k3,k4,k5,k6,l,k7⟩;exact⟨b,aH,k1,k2,k3,k4,k5,k6,l,aF.c8 _ _ _ i k7⟩
 ·refine .inr fun w ad a c=>?_;obtain⟨b,k1,k2⟩:=h w ad a (br.c8 _ _ _ g c);exact⟨b,k1,aF.c8 _ _ _ i k2⟩
def Ap(P:a4)(a:List a5)(v:PV)(e:bA)(s:St):Prop:=
 (match e with
  | .exit _=>False
  |_=>True)/\∃vs,fL P s a=some vs/\∃v',eB s.heap 9 (oneOf vs)=some v'/\Wk v' v
theorem Xd{a:List a5}{v:PV}{s:St}:Ap P a v .ret s=∃vs,fL P s a=some vs/\∃v',eB s.heap 9 (oneOf vs)=some v'/\Wk v' v:=by simp[Ap]
theorem UZ{a:List a5}{v:PV}{s:St}:Ap P a v .normal s=∃vs,fL P s a=some vs/\∃v',eB s.heap 9 (oneOf vs)=some v'/\Wk v' v:=by simp[Ap]
theorem so.c8{f:a3}{args a:List PV}{v v':PV}(h:so P f args v)(j:bD a args)(k:Wk v v'):so P f a v':=by
 refine⟨h.1,fun w ad b d g i=>(h.2 w ad b d g (br.c8 _ _ _ j i)).mono ?_⟩;rintro e w' ⟨c,aH,k1,k2,k3,k4,k5,k6,l,k7⟩;exact⟨c,aH,k1,k2,k3,k4,k5,k6,l,aF.c8 _ _ _ k k7⟩
theorem JW{dst:Option Tmp}{h:Nat}{pos:String}{af:Array Edge}{g:Option (Nat×Bool)}{env:Env}{heap:aj}{L:St->Prop}{f:a3}{fi ca:Array ay}(hf:ag f=false):
 dt P ag ⟨dst,.makeFunc (.func f) fi ca,h,pos,af,g⟩ L ⟨env,heap⟩=bh (rT f (fi.toList.map (ev env)) (ca.toList.map (ev env))) (ey dst ⟨env,heap⟩ L):=by
 simp only[dt,ln,fG,hf,rT,ax,if_false]
 split
 ·rename_i c d;simp only[c,d,bh,true_and]
 ·rename_i c
  split
  ·rename_i a b d e;exact(c a b d e).elim
  ·simp only[bh,true_and]
theorem JA{dst:Option Tmp}{h:Nat}{pos:String}{af:Array Edge}{g:Option (Nat×Bool)}{env:Env}{heap:aj}{K:aY->Prop}{f:a3}{fi ca:Array ay}(hf:ag f=false):
 du P ag ⟨dst,.makeFunc (.func f) fi ca,h,pos,af,g⟩ ⟨env,heap⟩ K=bh (rT f (fi.toList.map (ev env)) (ca.toList.map (ev env))) K:=by
 simp only[du,ln,fG,hf,rT,ax,if_false]
 split
 ·rename_i c d;simp only[c,d,bh,true_and]
 ·rename_i c
  split
  ·rename_i a b d e;exact(c a b d e).elim
  ·simp only[bh,true_and]
section guards
variable{ops:Array Oper}{o:Oper}{r:List Oper}{K:St->Prop}{want t:Bool}{s:St}{i:Nat}{acc:List Touch}
theorem Jp:zM P ag ops o r K want s (.p (.bool t))=if t=want then dt P ag o (gp P ag ops r K) s else gp P ag ops r K ⟨put o.dst (.p (.aE [])) s.env,s.heap⟩:=(rfl)
theorem J0:zM P ag ops o r K want s (.p (.aE []))=gp P ag ops r K ⟨put o.dst (.p (.aE [])) s.env,s.heap⟩:=(rfl)
theorem IL:zx P ag ops o r i acc K want s (.p (.bool t))=if t=want then du P ag o s (wR P ag ops r i acc K o.dst s)else gF P ag ops r (i+1) acc K ⟨put o.dst (.p (.aE [])) s.env,s.heap⟩:=(rfl)
theorem Jo:zx P ag ops o r i acc K want s (.p (.aE []))=gF P ag ops r (i+1) acc K ⟨put o.dst (.p (.aE [])) s.env,s.heap⟩:=(rfl)
theorem UX{l:List Oper}{j:Nat}{e:Env}:guardOf l.toArray j e=match(l[j]?).bind (·.dst)with
 |some d=>aP e d
 |none=>.p (.aE []):=by simp only[guardOf,List.getElem?_toArray];cases l[j]?.bind (·.dst)<;>rfl
end guards
section calls
variable{f:a3}{H H1:aj}{K:AV->aj->Prop}{L:aY->Prop}{v a b c d e a' b' c' d' e':PV}{dr:Bool}
theorem cw0(h:aB P f [] v)(hk:K (.p v) H):ie P dr f [] H K:=.inl ⟨[],v,rfl,h,hk⟩
theorem cw1(h:aB P f [a'] v)(hk:K (.p v) H)(b:Wk a a':=by first|exact Wk.refl _|simp[Wk,bD]):ie P dr f [.p a] H K:=.inl ⟨[a],v,rfl,h.c8 (by simp only[bD];exact⟨b,trivial⟩) (Wk.refl _),hk⟩
theorem cw2(h:aB P f [a',b'] v)(hk:K (.p v) H)(c:Wk a a':=by first|exact Wk.refl _|simp[Wk,bD])(d:Wk b b':=by first|exact Wk.refl _|simp[Wk,bD]):ie P dr f [.p a,.p b] H K:=
 .inl ⟨[a,b],v,rfl,h.c8 (by simp only[bD];exact⟨c,d,trivial⟩) (Wk.refl _),hk⟩
theorem cw3(h:aB P f [a',b',c'] v)(hk:K (.p v) H)(d:Wk a a':=by first|exact Wk.refl _|simp[Wk,bD])(e:Wk b b':=by first|exact Wk.refl _|simp[Wk,bD])(g:Wk c c':=by first|exact Wk.refl _|simp[Wk,bD]):ie P dr f [.p a,.p b,.p c] H K:=
 .inl ⟨[a,b,c],v,rfl,h.c8 (by simp only[bD];exact⟨d,e,g,trivial⟩) (Wk.refl _),hk⟩
theorem cw4(h:aB P f [a',b',c',d'] v)(hk:K (.p v) H)(e:Wk a a':=by first|exact Wk.refl _|simp[Wk,bD])(g:Wk b b':=by first|exact Wk.refl _|simp[Wk,bD])(i:Wk c c':=by first|exact Wk.refl _|simp[Wk,bD])(j:Wk d d':=by first|exact Wk.refl _|simp[Wk,bD]):ie P dr f [.p a,.p b,.p c,.p d] H K:=
 .inl ⟨[a,b,c,d],v,rfl,h.c8 (by simp only[bD];exact⟨e,g,i,j,trivial⟩) (Wk.refl _),hk⟩
theorem cw5(h:aB P f [a',b',c',d',e'] v)(hk:K (.p v) H)(g:Wk a a':=by first|exact Wk.refl _|simp[Wk,bD])(i:Wk b b':=by first|exact Wk.refl _|simp[Wk,bD])(j:Wk c c':=by first|exact Wk.refl _|simp[Wk,bD])(k:Wk d d':=by first|exact Wk.refl _|simp[Wk,bD])(l:Wk e e':=by first|exact Wk.refl _|simp[Wk,bD]):ie P dr f [.p a,.p b,.p c,.p d,.p e] H K:=
 .inl ⟨[a,b,c,d,e],v,rfl,h.c8 (by simp only[bD];exact⟨g,i,j,k,l,trivial⟩) (Wk.refl _),hk⟩
theorem ce0(h:aB P f [] v)(hk:L {v:=.p v}):ir P f [] H L:=.inl ⟨[],v,rfl,h,hk⟩
theorem ce1(h:aB P f [a'] v)(hk:L {v:=.p v})(b:Wk a a':=by first|exact Wk.refl _|simp[Wk,bD]):ir P f [.p a] H L:=.inl ⟨[a],v,rfl,h.c8 (by simp only[bD];exact⟨b,trivial⟩) (Wk.refl _),hk⟩
theorem ce2(h:aB P f [a',b'] v)(hk:L {v:=.p v})(c:Wk a a':=by first|exact Wk.refl _|simp[Wk,bD])(d:Wk b b':=by first|exact Wk.refl _|simp[Wk,bD]):ir P f [.p a,.p b] H L:=
 .inl ⟨[a,b],v,rfl,h.c8 (by simp only[bD];exact⟨c,d,trivial⟩) (Wk.refl _),hk⟩
theorem ce3(h:aB P f [a',b',c'] v)(hk:L {v:=.p v})(d:Wk a a':=by first|exact Wk.refl _|simp[Wk,bD])(e:Wk b b':=by first|exact Wk.refl _|simp[Wk,bD])(g:Wk c c':=by first|exact Wk.refl _|simp[Wk,bD]):ir P f [.p a,.p b,.p c] H L:=
 .inl ⟨[a,b,c],v,rfl,h.c8 (by simp only[bD];exact⟨d,e,g,trivial⟩) (Wk.refl _),hk⟩
theorem ce4(h:aB P f [a',b',c',d'] v)(hk:L {v:=.p v})(e:Wk a a':=by first|exact Wk.refl _|simp[Wk,bD])(g:Wk b b':=by first|exact Wk.refl _|simp[Wk,bD])(i:Wk c c':=by first|exact Wk.refl _|simp[Wk,bD])(j:Wk d d':=by first|exact Wk.refl _|simp[Wk,bD]):ir P f [.p a,.p b,.p c,.p d] H L:=
 .inl ⟨[a,b,c,d],v,rfl,h.c8 (by simp only[bD];exact⟨e,g,i,j,trivial⟩) (Wk.refl _),hk⟩
theorem ce5(h:aB P f [a',b',c',d',e'] v)(hk:L {v:=.p v})(g:Wk a a':=by first|exact Wk.refl _|simp[Wk,bD])(i:Wk b b':=by first|exact Wk.refl _|simp[Wk,bD])(j:Wk c c':=by first|exact Wk.refl _|simp[Wk,bD])(k:Wk d d':=by first|exact Wk.refl _|simp[Wk,bD])(l:Wk e e':=by first|exact Wk.refl _|simp[Wk,bD]):ir P f [.p a,.p b,.p c,.p d,.p e] H L:=
 .inl ⟨[a,b,c,d,e],v,rfl,h.c8 (by simp only[bD];exact⟨g,i,j,k,l,trivial⟩) (Wk.refl _),hk⟩
theorem cwp{args:List AV}{vs a:List PV}(h:aB P f a v)(c:nD H args=some (vs,H1))(hk:K (.p v) H1)(b:bD vs a:=by first|exact bD.refl _|simp[Wk,bD]):ie P false f args H K:=
 .inr ⟨rfl,.inl ⟨vs,H1,v,c,h.c8 b (Wk.refl _),hk⟩⟩
theorem cep{args:List AV}{vs a:List PV}{bs:List Nat}{al aK:List (Nat×Obj)}(h:aB P f a v)(c:oH H args=some (vs,bs))(hf:lL H bs=some (al,aK))(hk:L {v:=.p v,al,aK})(b:bD vs a:=by first|exact bD.refl _|simp[Wk,bD]):ir P f args H L:=
 .inr (.inl ⟨vs,bs,al,aK,v,c,hf,h.c8 b (Wk.refl _),hk⟩)
end calls
def KV(T:aj)(a v:AV):Prop:=a=v\/Gh T a v
theorem Sg{T:aj}{v:AV}:KV T v v=True:=by simp[KV]
theorem Se{T:aj}{b aC ai off len:Nat}:KV T (.p .aO) (.sl b aC ai off len)=(aC=0/\off=0/\len=0/\∃k z,T[b]?=some (.arr k 0 z [])/\k.gr=true):=by simp[KV,Gh,gd]
theorem Sh{T:aj}{u u':aT}{fs:List PV}{a:List AV}:KV T (.p (.st u fs)) (.st u' a)=(u=u'/\lC T fs a):=by simp[KV,Gh,gd]
def ml(T:aj)(e:Env):Env->Prop
 |[]=>True
 |(x,v)::r=>KV T (aP e x) v/\ml T e r
def KO(T:aj)(o:Obj):Obj->Prop
 | .hole=>True
 | .box false v'=>match o with
  | .box false v=>KV T v v'
  |_=>False
 | .arr k aC z es=>(o=.hole/\aC=0/\es=[]/\k.gr=true)\/o=.arr k aC z es
 |o'=>o=o'
def KN:Obj->Prop
 | .hole=>True
 | .arr k aC _ es=>aC=0/\es=[]/\k.gr=true
 |_=>False
def ij(T:aj):aj->aj->Prop
 |_,[]=>True
 |[],o'::t=>KN o'/\ij T [] t
 |o::h,o'::t=>KO T o o'/\ij T h t
theorem ml.get{T:aj}{e:Env}:∀{t:Env},ml T e t->∀x,aP t x=aP e x\/aP t x=.p .undef\/Gh T (aP e x) (aP t x)
 |[],_,x=>.inr (.inl rfl)
 |(y,v)::t,h,x=>by
  simp only[ml]at h;simp only[aP]
  split
  ·rename_i hx;subst hx;rcases h.1 with h|h
   ·exact .inl h.symm
   ·exact .inr (.inr h)
  ·exact ml.get h.2 x
theorem ij.get{T:aj}:∀{h t:aj},ij T h t->∀(b:Nat)(o:Obj),t[b]?=some o->
 o=.hole\/h[b]?=some o\/((h[b]?=none\/h[b]?=some .hole)/\∃k z,o=.arr k 0 z []/\k.gr=true)\/(∃v v',h[b]?=some (.box false v)/\o=.box false v'/\Gh T v v')
 |_,[],_,b,o,c=>by simp at c
 |[],o'::t,hk,b,o,c=>by
  simp only[ij]at hk;cases b with
  |zero=>
   simp at c;subst c;cases o'<;>have a:=hk.1<;>simp only[KN]at a
   ·exact .inl rfl
   ·obtain⟨rfl,rfl,d⟩:=a;exact .inr (.inr (.inl ⟨.inl rfl,_,_,rfl,d⟩))
  |succ b=>simpa using ij.get hk.2 b o (by simpa using c)
 |e::h,o'::t,hk,b,o,c=>by
  simp only[ij]at hk;cases b with
  |zero=>
   simp at c;subst c;have a:=hk.1;cases o' with
   |hole=>exact .inl rfl
   |dead=>simp only[KO]at a;subst a;exact .inr (.inl rfl)
   |map fz es=>simp only[KO]at a;subst a;exact .inr (.inl rfl)
   |cZ ks vs=>simp only[KO]at a;subst a;exact .inr (.inl rfl)
   |dw s p=>simp only[KO]at a;subst a;exact .inr (.inl rfl)
   |loop L=>simp only[KO]at a;subst a;exact .inr (.inl rfl)
   |arr k aC z es=>
    simp only[KO]at a;rcases a with⟨rfl,rfl,rfl,d⟩|rfl
    ·exact .inr (.inr (.inl ⟨.inr rfl,_,_,rfl,d⟩))
    ·exact .inr (.inl rfl)
   |box fz v'=>
    cases fz with
    |true=>simp only[KO]at a;subst a;exact .inr (.inl rfl)
    |false=>
     simp only[KO]at a
     split at a
     ·rcases a with rfl|a
      ·exact .inr (.inl rfl)
      ·exact .inr (.inr (.inr ⟨_,_,rfl,rfl,a⟩))
     ·exact a.elim
  |succ b=>simpa using ij.get hk.2 b o (by simpa using c)
theorem cR.og{N:Nat}{s t:St}(d:t.heap.take N=s.heap.take N)(c:ml t.heap s.env t.env)(hh:ij t.heap s.heap t.heap)(e:iu t.heap t.env)(f:dE t.heap t.heap):cR N s t:=by
 refine .inr ⟨⟨c.get,hh.get,e.get,f.get⟩,fun b a=>?_⟩;have:=congrArg (fun l:aj=>l[b]?) d;simpa[b5,a]using this
theorem NK{T:aj}{o:Obj}:KO T o o=True:=by
 cases o with
 |box fz v=>cases fz<;>simp[KO,KV]
 |_=>simp[KO]
theorem Sc{T:aj}{o:Obj}:KO T o .hole=True:=by simp[KO]
theorem Sb{T:aj}{v v':AV}:KO T (.box false v) (.box false v')=KV T v v':=(rfl)
theorem Sd{T:aj}{k:AK}{aC z:Nat}{a:List AV}:KO T .hole (.arr k aC z a)=(aC=0/\a=[]/\k.gr=true):=by simp[KO]
theorem Sa:KN .hole=True:=(rfl)
theorem R9{k:AK}{aC z:Nat}{a:List AV}:KN (.arr k aC z a)=(aC=0/\a=[]/\k.gr=true):=(rfl)
theorem Sf{T:aj}{x y:PV}:KV T (.p x) (.p y)=(x=y):=by
 have:Gh T (.p x) (.p y)↔x=y:=by cases x<;>simp[Gh,gd,eq_comm]
 simp[KV,this]
def uS{α:Type}(N:Nat)(mk:α->St)(ok:α->Prop)(m:α->Nat)(n:Nat)(s:St):Prop:=∃a',m a'<n/\ok a'/\cR N s (mk a')
def rU{α:Type}(N:Nat)(mk:α->St)(ok:α->Prop)(m:α->Nat)(n:Nat)(Q:bA->St->Prop)(e:bA)(s:St):Prop:=
 match e with
 | .normal=>uS N mk ok m n s
 |e=>Q e s
section
variable{α:Type}{N:Nat}{mk:α->St}{ok:α->Prop}{m:α->Nat}{n:Nat}{Q:bA->St->Prop}{s s':St}{q:Cx}
theorem UA:rU N mk ok m n Q .normal s=uS N mk ok m n s:=(rfl)
theorem VV{id:Nat}:rU N mk ok m n Q (.exit id) s=Q (.exit id) s:=(rfl)
theorem WS:rU N mk ok m n Q .ret s=Q .ret s:=(rfl)
theorem wl{b:Code}(mk:α->St)(ok:α->Prop)(m:α->Nat)(a0:α)(k:ok a0)(im:∀a,ok a->dm P ag q b (rU q.2 mk ok m (m a) Q) (mk a))
 (j:(mk a0).heap.take q.2=s.heap.take q.2:=by simp)(h:ml (mk a0).heap s.env (mk a0).env:=by simp)(i:ij (mk a0).heap s.heap (mk a0).heap:=by simp)(l:iu (mk a0).heap (mk a0).env:=by simp)(o:dE (mk a0).heap (mk a0).heap:=by simp):
 dm P ag q (.loop b) Q s:=by
 simp only[dm];refine⟨fun n t=>∃a,ok a/\t=mk a/\n=m a,⟨m a0,mk a0,cR.og j h i l o,a0,k,rfl,rfl⟩,?_⟩;rintro n t ⟨a,g,rfl,rfl⟩;have:rU q.2 mk ok m (m a) Q=ua q.2 (m a) (fun n t=>∃a,ok a/\t=mk a/\n=m a) Q:=by
  funext e s
  cases e with
  |normal=>
   simp only[rU,ua,uS,eq_iff_iff];constructor
   ·rintro⟨a',c,d,f⟩;exact⟨m a',mk a',c,f,a',d,rfl,rfl⟩
   ·rintro⟨_,_,c,f,a',d,rfl,rfl⟩;exact⟨a',c,d,f⟩
  |exit id=>rfl
  |ret=>rfl
 rw[<-this];exact im a g
theorem rnd(a':α)(b:ok a')(a:m a'<n:=by omega)(e:(mk a').heap.take N=s.heap.take N:=by simp)(c:ml (mk a').heap s.env (mk a').env:=by simp)(d:ij (mk a').heap s.heap (mk a').heap:=by simp)(f:iu (mk a').heap (mk a').env:=by simp)(g:dE (mk a').heap (mk a').heap:=by simp):
 uS N mk ok m n s:=⟨a',a,b,cR.og e c d f g⟩
end
theorem aQ(n:Int)(h:-9223372036854775808<=n)(a:n<=9223372036854775807):IntKind.i64.wrap n=n:=IntWalk.i64_in n ⟨h,a⟩
theorem Bh(a b:Int):(a<b/\¬b<=a)\/(¬a<b/\b<=a):=o_
theorem b6{i:Nat}(h:i<4611686018427387904):IntKind.i64.wrap ((i:Int)+1)=(i:Int)+1:=aQ _ o_ o_
attribute [simp] Wk bD aI Obj.has Jp J0 IL Jo UX JW JA rT UA VV WS ml ij Sg Sf Se Sh NK Sc Sb Sd Sa R9 lC gd AK.gr iu dE aG Obj.refs
attribute [simp] Xd UZ Wk.refl bD.refl
end
end Go.aq
namespace Go.aq
variable[Gl]
mutual
def dW:PV->Prop
 | .str s=>∀c∈s,c<256
 | .cr t=>dW t
 | .cT _ es| .seq es| .st _ es| .aE es=>mr es
 |_=>True
def mr:List PV->Prop
 |[]=>True
 |v::vs=>dW v/\mr vs
end
section
variable{P:a4}{w:a7}{ad:Nat->Prop}
theorem LD(bs:ByteArray):∀c∈bs.data.toList.map (·.toNat),c<256:=by
 intro c hc;simp only[bW]at hc;obtain⟨b,_,rfl⟩:=hc;exact UInt8.toNat_lt b
mutual
theorem aZ.dW:∀(v:PV)(cs:List a6),aZ P w ad v cs->dW v
 | .str s,cs,h=>by simp only[aZ]at h;obtain⟨bs,_,rfl⟩:=h;simp only[aq.dW];exact LD bs
 | .cr t,cs,h=>by simp only[aZ]at h;obtain⟨_,_,ts,a,_⟩:=h;simp only[aq.dW];exact aZ.dW t ts a
 | .cT f b,cs,h=>by simp only[aZ]at h;obtain⟨_,_,_,_,d,a,_⟩:=h;simp only[aq.dW];exact bg.dW _ b d a
 | .seq b,cs,h=>by
  simp only[aZ]at h;simp only[aq.dW];rcases h with⟨rfl,_⟩|⟨_,_,_,_,d,a,_⟩
  ·trivial
  ·exact bg.dW _ b d a
 | .st u b,cs,h=>by simp only[aZ]at h;obtain⟨l,d,_,a,_⟩:=h;simp only[aq.dW];exact bg.dW _ b d a
 | .aE b,cs,h=>by simp[aZ]at h
 | .undef,_,_| .bool _,_,_| .int _ _,_,_| .dL,_,_| .aO,_,_| .ft,_,_| .gU,_,_| .gI,_,_| .eg _,_,_| .func _ _ _,_,_=>by simp[aq.dW]
theorem bg.dW:∀(l:List Nat)(b:List PV)(d:List (List a6)),bg P w ad l b d->mr b
 |_,[],_,_=>by simp[aq.mr]
 |[],_::_,_,h=>by simp[bg]at h
 |n::l,v::vs,d,h=>by
  simp only[bg]at h;obtain⟨c,cs,_,a,_,g⟩:=h;simp only[aq.mr];exact⟨aZ.dW v c a,bg.dW l vs cs g⟩
theorem aF.dW:∀(v:PV)(x:a6),aF P w ad v x->dW v
 | .str s,cs,h=>by simp only[aF]at h;obtain⟨bs,_,rfl⟩:=h;simp only[aq.dW];exact LD bs
 | .cr t,cs,h=>by simp only[aF]at h;obtain⟨_,_,ts,a,_⟩:=h;simp only[aq.dW];exact aZ.dW t ts a
 | .cT f b,cs,h=>by simp only[aF]at h;obtain⟨_,_,_,_,d,a,_⟩:=h;simp only[aq.dW];exact bg.dW _ b d a
 | .seq b,cs,h=>by
  simp only[aF]at h;simp only[aq.dW];rcases h with⟨rfl,_⟩|⟨_,_,_,_,d,a,_⟩
  ·trivial
  ·exact bg.dW _ b d a
 | .st u b,cs,h=>by simp only[aF]at h;obtain⟨l,d,_,a,_⟩:=h;simp only[aq.dW];exact bg.dW _ b d a
 | .aE b,cs,h=>by simp only[aF]at h;obtain⟨e,a,_⟩:=h;simp only[aq.dW];exact br.dW b e a
 | .undef,_,_| .bool _,_,_| .int _ _,_,_| .dL,_,_| .aO,_,_| .ft,_,_| .gU,_,_| .gI,_,_| .eg _,_,_| .func _ _ _,_,_=>by simp[aq.dW]
theorem br.dW:∀(b:List PV)(e:List a6),br P w ad b e->mr b
 |[],_,_=>by simp[aq.mr]
 |v::vs,e,h=>by
  simp only[br]at h;obtain⟨y,i,_,a,g⟩:=h;simp only[aq.mr];exact⟨aF.dW v y a,br.dW vs i g⟩
end
theorem SU{f:a3}{args:List PV}{v:PV}(h:mr args->aB P f args v):aB P f args v:=by
 by_cases hs:mr args
 ·exact h hs
 ·exact .inr fun w ad b a=>(hs (br.dW _ _ a)).elim
end
end Go.aq
namespace Go.aq
variable[Gl]
@[reducible] def Tg{α:Type}(_:α)(β:Type):Type:=β
@[reducible] def Tg1{α:Type 1}(_:α)(β:Type):Type:=β
section
variable(P:a4)(ag:a3->Bool)
def eP(q:Cx)(c:Code)(Q:bA->St->Prop)(s:Tg (q,c,Q) St):Prop:=dm P ag q c Q s
def qw(a:Array Oper)(l:List Oper)(K:St->Prop)(s:Tg (a,l,K) St):Prop:=gp P ag a l K s
def oN(b:Array Oper)(l:List Oper)(i:Nat)(a:List Touch)(K:St->Prop)(s:Tg (b,l,i,a,K) St):Prop:=gF P ag b l i a K s
def A6(K:St->Prop)(Q:bA->St->Prop)(e:Tg (K,Q) bA)(s:Tg (K,Q) St):Prop:=uJ K Q e s
def rJ(id:Nat)(Q:bA->St->Prop)(e:Tg (id,Q) bA)(s:Tg (id,Q) St):Prop:=oB id Q e s
def P9(a b:St->Prop)(s:St)(v:Tg (a,b,s) AV):Prop:=ue v a b s
def zY(b:Array Oper)(r:List Oper)(i:Nat)(a:List Touch)(K:St->Prop)(dst:Option Tmp)(s:St)(e:Tg (b,r,i,a,K,dst,s) aY):Prop:=wR P ag b r i a K dst s e
def eJ(dst:Option Tmp)(s:St)(K:St->Prop)(e:Tg (dst,s,K) aY):Prop:=ey dst s K e
def Rw(dst:Option Tmp)(s:St)(K:St->Prop)(v:Tg (dst,s,K) AV)(H:Tg (dst,s,K) aj):Prop:=A1 dst s K v H
def D7(a:Array Oper)(o:Oper)(r:List Oper)(K:St->Prop)(b:Bool)(s:St)(g:Tg (a,o,r,K,b,s) AV):Prop:=zM P ag a o r K b s g
def Dp(b:Array Oper)(o:Oper)(r:List Oper)(i:Nat)(a:List Touch)(K:St->Prop)(c:Bool)(s:St)(g:Tg (b,o,r,i,a,K,c,s) AV):Prop:=zx P ag b o r i a K c s g
def dX(o:Oper)(K:St->Prop)(s:St)(_:Tg (o,K,s) Unit):Prop:=dt P ag o K s
def dT(o:Oper)(s:St)(K:aY->Prop)(_:Tg (o,K,s) Unit):Prop:=du P ag o s K
def cG(K:aY->Prop)(r:Tg K eC):Prop:=bh r K
def Av(H:aj)(K:AV->aj->Prop)(f:Tg (H,K) AV)(args:Tg (H,K) (List AV)):Prop:=rS P f args H K
def wV(H:aj)(K:aY->Prop)(f:Tg (H,K) AV)(args:Tg (H,K) (List AV)):Prop:=rH P f args H K
def kV(d:Bool)(f:a3)(K:AV->aj->Prop)(args:Tg K (List AV))(H:Tg K aj):Prop:=ie P d f args H K
def ng(f:a3)(K:aY->Prop)(args:Tg K (List AV))(H:Tg K aj):Prop:=ir P f args H K
def sj(R:AV->PV->Prop):List AV->List PV->Prop
 |[],vs=>vs=[]
 |x::xs,vs=>match vs with
  |v::vs=>R x v/\sj R xs vs
  |[]=>False
def gu(H:aj):Nat->AV->PV->Prop
 |0=>fun x v=>match x with
  | .p a=>Wk a v
  |_=>False
 |n+1=>fun x v=>match x with
  | .p a=>Wk a v
  | .sl b aC z off len=>match v with
   | .seq fs=>match H[b]? with
    |some (.arr _ e h es)=>aC=e/\z=h/\off+len<=es.length/\sj (gu H n) ((es.drop off).take len) fs
    |_=>False
   |_=>False
  | .st u xs=>match v with
   | .st u' vs=>u=u'/\sj (gu H n) xs vs
   |_=>False
  | .aE xs=>match v with
   | .aE vs=>sj (gu H n) xs vs
   |_=>False
  | .ptr b path=>match v with
   | .cr t=>match H[b]? with
    |some (.box _ y)=>match eX y path with
     |some s=>gu H n s t
     |none=>False
    |_=>False
   |_=>False
  | .map b=>match v with
   | .eg es=>match H[b]? with
    |some (.map _ c)=>c=es
    |_=>False
   |_=>False
  | .func f xs g=>match v with
   | .func d vs us=>f=d/\sj (gu H n) xs vs/\sj (gu H n) g us
   |_=>False
  |_=>False
def lD(H:aj)(n:Nat):List AV->List PV->Prop:=sj (gu H n)
def sr(a:List a5)(v:PV)(e:Tg (a,v) bA)(s:Tg (a,v) St):Prop:=
 (match e with
  | .exit _=>False
  |_=>True)/\∃vs,fL P s a=some vs/\gu (St.heap s) 9 (oneOf vs) v
def wG(a:Array Oper)(l:Tg a (List Touch)):Bool:=iJ a l
def aHD(a:Array Oper)(i j:Tg a Nat):Bool:=reach a a.size i j
end
section
variable{P:a4}{ag:a3->Bool}{q:Cx}
theorem aLG{Q:bA->St->Prop}{s:St}:eP P ag q .skip Q s=Q .normal s:=N9
theorem XJ{l:Nat}{Q:bA->St->Prop}{s:St}:eP P ag q (.label l) Q s=Q .normal s:=MN
theorem aLE{id:Nat}{Q:bA->St->Prop}{s:St}:eP P ag q (.exit id) Q s=Q (.exit id) s:=Oa
theorem aLF{Q:bA->St->Prop}{s:St}:eP P ag q .ret Q s=Q .ret s:=R0
theorem XH{b:Code}{Q:bA->St->Prop}{s:St}:eP P ag q (.scope b) Q s=eP P ag q b Q s:=ML
theorem aLD{id:Nat}{l:List Oper}{Q:bA->St->Prop}{s:St}:eP P ag q (.region id l.toArray true) Q s=oN P ag l.toArray l 0 [] (Q .normal) s:=Ob
theorem XI{id:Nat}{l:List Oper}{Q:bA->St->Prop}{s:St}:eP P ag q (.region id l.toArray false) Q s=qw P ag l.toArray l (Q .normal) s:=MM
theorem bu{a b:Code}{Q:bA->St->Prop}{s:St}:eP P ag q (.seq a b) Q s=eP P ag q a (A6 (eP P ag q b Q) Q) s:=R3
theorem Lz{id:Nat}{b:Code}{Q:bA->St->Prop}{s:St}:eP P ag q (.block id b) Q s=eP P ag q b (rJ id Q) s:=MO
theorem aLC{c:ay}{a b:Code}{Q:bA->St->Prop}{s:St}:eP P ag q (.cond c a b) Q s=P9 (eP P ag q a Q) (eP P ag q b Q) s (ev s.env c):=Oc
theorem UD{K:St->Prop}{Q:bA->St->Prop}{s:St}:A6 K Q .normal s=K s:=Jh
theorem Wh{id:Nat}{K:St->Prop}{Q:bA->St->Prop}{s:St}:A6 K Q (.exit id) s=Q (.exit id) s:=Kw
theorem Wo{K:St->Prop}{Q:bA->St->Prop}{s:St}:A6 K Q .ret s=Q .ret s:=Ls
theorem Vb{t:Bool}{a b:St->Prop}{s:St}:P9 a b s (.p (.bool t))=if t then a s else b s:=JC
theorem Xa{b:Array Oper}{r:List Oper}{i:Nat}{a:List Touch}{K:St->Prop}{dst:Option Tmp}{env:Env}{heap:aj}{v:AV}{al aK:List (Nat×Obj)}{aX:List Obj}:zY P ag b r i a K dst ⟨env,heap⟩ ⟨v,al,aK,aX⟩=oN P ag b r (i+1) (gl i heap.length ⟨v,al,aK,aX⟩ a) K ⟨put dst v env,bc heap aK++aX⟩:=LW
theorem YZ{dst:Option Tmp}{env:Env}{heap:aj}{K:St->Prop}{v:AV}{al aK:List (Nat×Obj)}{aX:List Obj}:eJ dst ⟨env,heap⟩ K ⟨v,al,aK,aX⟩=K ⟨put dst v env,bc heap aK++aX⟩:=NG
theorem YF{dst:Option Tmp}{env:Env}{heap H:aj}{K:St->Prop}{v:AV}:Rw dst ⟨env,heap⟩ K v H=K ⟨put dst v env,H⟩:=Nc
theorem aLH{b:Array Oper}{i:Nat}{a:List Touch}{K:St->Prop}{s:St}:oN P ag b [] i a K s=(wG b a=true/\K s):=N8
theorem XG{b:Array Oper}{i c:Nat}{pos:String}{a:List Touch}{K:St->Prop}{s:St}{dst:Option Tmp}{op:Op}{af:Array Edge}{r:List Oper}:oN P ag b ({dst,op,type:=c,pos,after:=af,guard:=none}::r) i a K s=dT P ag {dst,op,type:=c,pos,after:=af,guard:=none} s (zY P ag b r i a K dst s) ():=MK
theorem WL{a:Array Oper}{i d j:Nat}{b:Bool}{pos:String}{c:List Touch}{K:St->Prop}{s:St}{dst:Option Tmp}{op:Op}{af:Array Edge}{r:List Oper}:oN P ag a ({dst,op,type:=d,pos,after:=af,guard:=some (j,b)}::r) i c K s=Dp P ag a {dst,op,type:=d,pos,after:=af,guard:=some (j,b)} r i c K b s (guardOf a j s.env):=Ly
theorem aLP{a:Array Oper}{K:St->Prop}{s:St}:qw P ag a [] K s=K s:=N6
theorem XF{a:Array Oper}{b:Nat}{pos:String}{K:St->Prop}{s:St}{dst:Option Tmp}{op:Op}{af:Array Edge}{r:List Oper}:qw P ag a ({dst,op,type:=b,pos,after:=af,guard:=none}::r) K s=dX P ag {dst,op,type:=b,pos,after:=af,guard:=none} (qw P ag a r K) s ():=MI
theorem WK{a:Array Oper}{c j:Nat}{b:Bool}{pos:String}{K:St->Prop}{s:St}{dst:Option Tmp}{op:Op}{af:Array Edge}{r:List Oper}:qw P ag a ({dst,op,type:=c,pos,after:=af,guard:=some (j,b)}::r) K s=D7 P ag a {dst,op,type:=c,pos,after:=af,guard:=some (j,b)} r K b s (guardOf a j s.env):=Lx
section ops
variable{dst:Option Tmp}{ty:Nat}{pos:String}{af:Array Edge}{g:Option (Nat×Bool)}{env:Env}{heap:aj}{K:aY->Prop}{L:St->Prop}
theorem ara{x:ay}:dT P ag ⟨dst,.move x,ty,pos,af,g⟩ ⟨env,heap⟩ K ()=K {v:=ev env x}:=Pt
theorem Xj{x:ay}:dT P ag ⟨dst,.assign x,ty,pos,af,g⟩ ⟨env,heap⟩ K ()=K {v:=ev env x}:=LU
theorem arN{c a b:ay}:dT P ag ⟨dst,.pick c a b,ty,pos,af,g⟩ ⟨env,heap⟩ K ()=cG K (rY (ev env c) (ev env a) (ev env b)):=Pr
theorem Za{T:aT}:dT P ag ⟨dst,.alloc T,ty,pos,af,g⟩ ⟨env,heap⟩ K ()=cG K (rK P T heap.length):=Nq
theorem anS{T:aT}{x:ay}:dT P ag ⟨dst,.box T x,ty,pos,af,g⟩ ⟨env,heap⟩ K ()=cG K (uq P T heap.length (ev env x)):=Qe
theorem Y9{T:aT}{a:Array (Nat×ay)}:dT P ag ⟨dst,.build T a,ty,pos,af,g⟩ ⟨env,heap⟩ K ()=cG K (rI P T (a.toList.map fun(i,x)=>(i,ev env x))):=Np
theorem Uc{T:aT}{n:Nat}{a:Array (Nat×ay)}:dT P ag ⟨dst,.buildSlice T n a,ty,pos,af,g⟩ ⟨env,heap⟩ K ()=cG K (qO P T n (a.toList.map fun(i,x)=>(i,ev env x)) heap.length):=IP
theorem apV{T:aT}{a:ay}:dT P ag ⟨dst,.load T a,ty,pos,af,g⟩ ⟨env,heap⟩ K ()=cG K (pY P T heap (ev env a)):=O2
theorem Y4{T:aT}{a x:ay}:dT P ag ⟨dst,.store T a x,ty,pos,af,g⟩ ⟨env,heap⟩ K ()=cG K (pP P T heap (ev env a) (ev env x)):=Nk
theorem amY{op:a9}{T a:aT}{x y:ay}:dT P ag ⟨dst,.binOp op T x y a,ty,pos,af,g⟩ ⟨env,heap⟩ K ()=cG K (jx P op T (mE y) heap (ev env x) (ev env y)):=Qd
theorem asS{op:UnOp}{T:aT}{x:ay}:dT P ag ⟨dst,.unOp op T x,ty,pos,af,g⟩ ⟨env,heap⟩ K ()=cG K (sM op (ev env x)):=Qi
theorem aob{S D:aT}{x:ay}:dT P ag ⟨dst,.convert S D x,ty,pos,af,g⟩ ⟨env,heap⟩ K ()=cG K (rR P S D heap (ev env x)):=O4
theorem VD{t:ay}{i:Nat}:dT P ag ⟨dst,.extract t i,ty,pos,af,g⟩ ⟨env,heap⟩ K ()=cG K (re (ev env t) i):=K2
theorem U6{T:aT}{a:ay}{f:Nat}:dT P ag ⟨dst,.fieldAddr T a f,ty,pos,af,g⟩ ⟨env,heap⟩ K ()=cG K (po P T (ev env a) f):=Jj
theorem U5{T:aT}{x i:ay}:dT P ag ⟨dst,.indexAddr T x i,ty,pos,af,g⟩ ⟨env,heap⟩ K ()=cG K (pn P T heap (ev env x) (ev env i)):=Ji
theorem Y7{T:aT}{x i:ay}:dT P ag ⟨dst,.index T x i,ty,pos,af,g⟩ ⟨env,heap⟩ K ()=cG K (rM P T (ev env x) (ev env i)):=Nn
theorem aog{x:ay}{a:Array aT}:dT P ag ⟨dst,.call {callee:=.builtin .len,args:=#[x],argTypes:=a},ty,pos,af,g⟩ ⟨env,heap⟩ K ()=cG K (sD P (a.getD 0 0) a.size heap (ev env x)):=Qf
theorem anX{f:ay}{args:List ay}{a:Array aT}:dT P ag ⟨dst,.call {callee:=.value f,args:=args.toArray,argTypes:=a},ty,pos,af,g⟩ ⟨env,heap⟩ K ()=wV P heap K (ev env f) (args.map (ev env)):=O5
theorem aHg{x:ay}:dX P ag ⟨dst,.move x,ty,pos,af,g⟩ L ⟨env,heap⟩ ()=eJ dst ⟨env,heap⟩ L {v:=ev env x}:=OM
theorem WV{x:ay}:dX P ag ⟨dst,.assign x,ty,pos,af,g⟩ L ⟨env,heap⟩ ()=eJ dst ⟨env,heap⟩ L {v:=ev env x}:=La
theorem aHk{c a b:ay}:dX P ag ⟨dst,.pick c a b,ty,pos,af,g⟩ L ⟨env,heap⟩ ()=cG (eJ dst ⟨env,heap⟩ L) (rY (ev env c) (ev env a) (ev env b)):=OK
theorem YO{T:aT}:dX P ag ⟨dst,.alloc T,ty,pos,af,g⟩ L ⟨env,heap⟩ ()=cG (eJ dst ⟨env,heap⟩ L) (rK P T heap.length):=MX
theorem aG2{T:aT}{x:ay}:dX P ag ⟨dst,.box T x,ty,pos,af,g⟩ L ⟨env,heap⟩ ()=cG (eJ dst ⟨env,heap⟩ L) (uq P T heap.length (ev env x)):=Rp
theorem YN{T:aT}{a:Array (Nat×ay)}:dX P ag ⟨dst,.build T a,ty,pos,af,g⟩ L ⟨env,heap⟩ ()=cG (eJ dst ⟨env,heap⟩ L) (rI P T (a.toList.map fun(i,x)=>(i,ev env x))):=MW
theorem Uj{T:aT}{n:Nat}{a:Array (Nat×ay)}:dX P ag ⟨dst,.buildSlice T n a,ty,pos,af,g⟩ L ⟨env,heap⟩ ()=cG (eJ dst ⟨env,heap⟩ L) (qO P T n (a.toList.map fun(i,x)=>(i,ev env x)) heap.length):=II
theorem aHa{T:aT}{a:ay}:dX P ag ⟨dst,.load T a,ty,pos,af,g⟩ L ⟨env,heap⟩ ()=cG (eJ dst ⟨env,heap⟩ L) (pY P T heap (ev env a)):=ON
theorem YI{T:aT}{a x:ay}:dX P ag ⟨dst,.store T a x,ty,pos,af,g⟩ L ⟨env,heap⟩ ()=cG (eJ dst ⟨env,heap⟩ L) (pP P T heap (ev env a) (ev env x)):=Nf
theorem aG1{op:a9}{T a:aT}{x y:ay}:dX P ag ⟨dst,.binOp op T x y a,ty,pos,af,g⟩ L ⟨env,heap⟩ ()=cG (eJ dst ⟨env,heap⟩ L) (jx P op T (mE y) heap (ev env x) (ev env y)):=Ro
theorem aHm{op:UnOp}{T:aT}{x:ay}:dX P ag ⟨dst,.unOp op T x,ty,pos,af,g⟩ L ⟨env,heap⟩ ()=cG (eJ dst ⟨env,heap⟩ L) (sM op (ev env x)):=Rt
theorem aG4{S D:aT}{x:ay}:dX P ag ⟨dst,.convert S D x,ty,pos,af,g⟩ L ⟨env,heap⟩ ()=cG (eJ dst ⟨env,heap⟩ L) (rR P S D heap (ev env x)):=OP
theorem VN{t:ay}{i:Nat}:dX P ag ⟨dst,.extract t i,ty,pos,af,g⟩ L ⟨env,heap⟩ ()=cG (eJ dst ⟨env,heap⟩ L) (re (ev env t) i):=Kc
theorem Ut{T:aT}{a:ay}{f:Nat}:dX P ag ⟨dst,.fieldAddr T a f,ty,pos,af,g⟩ L ⟨env,heap⟩ ()=cG (eJ dst ⟨env,heap⟩ L) (po P T (ev env a) f):=I9
theorem UI{T:aT}{x i:ay}:dX P ag ⟨dst,.indexAddr T x i,ty,pos,af,g⟩ L ⟨env,heap⟩ ()=cG (eJ dst ⟨env,heap⟩ L) (pn P T heap (ev env x) (ev env i)):=I8
theorem YL{T:aT}{x i:ay}:dX P ag ⟨dst,.index T x i,ty,pos,af,g⟩ L ⟨env,heap⟩ ()=cG (eJ dst ⟨env,heap⟩ L) (rM P T (ev env x) (ev env i)):=MV
theorem aG7{x:ay}{a:Array aT}:dX P ag ⟨dst,.call {callee:=.builtin .len,args:=#[x],argTypes:=a},ty,pos,af,g⟩ L ⟨env,heap⟩ ()=cG (eJ dst ⟨env,heap⟩ L) (sD P (a.getD 0 0) a.size heap (ev env x)):=Rq
theorem aG3{f:ay}{args:List ay}{a:Array aT}:dX P ag ⟨dst,.call {callee:=.value f,args:=args.toArray,argTypes:=a},ty,pos,af,g⟩ L ⟨env,heap⟩ ()=Av P heap (Rw dst ⟨env,heap⟩ L) (ev env f) (args.map (ev env)):=OQ
theorem Y5{T:aT}{x:ay}{lo hi:Option ay}:dT P ag ⟨dst,.slice T x lo hi none,ty,pos,af,g⟩ ⟨env,heap⟩ K ()=cG K (pR P T heap (ev env x) (lo.map (ev env)) (hi.map (ev env))):=Nl
theorem YJ{T:aT}{x:ay}{lo hi:Option ay}:dX P ag ⟨dst,.slice T x lo hi none,ty,pos,af,g⟩ L ⟨env,heap⟩ ()=cG (eJ dst ⟨env,heap⟩ L) (pR P T heap (ev env x) (lo.map (ev env)) (hi.map (ev env))):=MT
theorem Xh{T:aT}{x i:ay}{ok:Bool}:dT P ag ⟨dst,.lookup T x i ok,ty,pos,af,g⟩ ⟨env,heap⟩ K ()=cG K (rV P T heap (ev env x) (ev env i) ok):=LR
theorem WT{T:aT}{x i:ay}{ok:Bool}:dX P ag ⟨dst,.lookup T x i ok,ty,pos,af,g⟩ L ⟨env,heap⟩ ()=cG (eJ dst ⟨env,heap⟩ L) (rV P T heap (ev env x) (ev env i) ok):=K8
theorem U3{T:aT}{m k x:ay}:dT P ag ⟨dst,.mapUpdate T m k x,ty,pos,af,g⟩ ⟨env,heap⟩ K ()=cG K (mC P T heap (ev env m) (ev env k) (ev env x)):=Jv
theorem UG{T:aT}{m k x:ay}:dX P ag ⟨dst,.mapUpdate T m k x,ty,pos,af,g⟩ L ⟨env,heap⟩ ()=cG (eJ dst ⟨env,heap⟩ L) (mC P T heap (ev env m) (ev env k) (ev env x)):=I6
theorem Xi{T:aT}{m k x:ay}:dT P ag ⟨dst,.insert T m k x,ty,pos,af,g⟩ ⟨env,heap⟩ K ()=cG K (mC P T heap (ev env m) (ev env k) (ev env x)):=LS
theorem WU{T:aT}{m k x:ay}:dX P ag ⟨dst,.insert T m k x,ty,pos,af,g⟩ L ⟨env,heap⟩ ()=cG (eJ dst ⟨env,heap⟩ L) (mC P T heap (ev env m) (ev env k) (ev env x)):=K9
theorem Y6{T:aT}{x:ay}:dT P ag ⟨dst,.range T x,ty,pos,af,g⟩ ⟨env,heap⟩ K ()=cG K (rE P T heap.length (ev env x)):=HO
theorem YK{T:aT}{x:ay}:dX P ag ⟨dst,.range T x,ty,pos,af,g⟩ L ⟨env,heap⟩ ()=cG (eJ dst ⟨env,heap⟩ L) (rE P T heap.length (ev env x)):=MU
theorem arE{it:ay}:dT P ag ⟨dst,.next it true,ty,pos,af,g⟩ ⟨env,heap⟩ K ()=cG K (sc heap (ev env it)):=Ps
theorem aHi{it:ay}:dX P ag ⟨dst,.next it true,ty,pos,af,g⟩ L ⟨env,heap⟩ ()=cG (eJ dst ⟨env,heap⟩ L) (sc heap (ev env it)):=OL
theorem U4{T:aT}{l c:ay}:dT P ag ⟨dst,.makeSlice T l c,ty,pos,af,g⟩ ⟨env,heap⟩ K ()=cG K (se P T heap.length (ev env l) (ev env c)):=Jw
theorem UH{T:aT}{l c:ay}:dX P ag ⟨dst,.makeSlice T l c,ty,pos,af,g⟩ L ⟨env,heap⟩ ()=cG (eJ dst ⟨env,heap⟩ L) (se P T heap.length (ev env l) (ev env c)):=I7
theorem U9{x:ay}:dT P ag ⟨dst,.nilCheck x,ty,pos,af,g⟩ ⟨env,heap⟩ K ()=cG K (ry (ev env x)):=Jz
theorem Vs{x:ay}:dX P ag ⟨dst,.nilCheck x,ty,pos,af,g⟩ L ⟨env,heap⟩ ()=cG (eJ dst ⟨env,heap⟩ L) (ry (ev env x)):=JV
theorem aqk{args:Array ay}{a:Array aT}:dT P ag ⟨dst,.call {callee:=.builtin .min,args,argTypes:=a},ty,pos,af,g⟩ ⟨env,heap⟩ K ()=cG K (lj false (args.toList.map (ev env))):=Qh
theorem aHf{args:Array ay}{a:Array aT}:dX P ag ⟨dst,.call {callee:=.builtin .min,args,argTypes:=a},ty,pos,af,g⟩ L ⟨env,heap⟩ ()=cG (eJ dst ⟨env,heap⟩ L) (lj false (args.toList.map (ev env))):=Rs
theorem ap2{args:Array ay}{a:Array aT}:dT P ag ⟨dst,.call {callee:=.builtin .max,args,argTypes:=a},ty,pos,af,g⟩ ⟨env,heap⟩ K ()=cG K (lj true (args.toList.map (ev env))):=Qg
theorem aHe{args:Array ay}{a:Array aT}:dX P ag ⟨dst,.call {callee:=.builtin .max,args,argTypes:=a},ty,pos,af,g⟩ L ⟨env,heap⟩ ()=cG (eJ dst ⟨env,heap⟩ L) (lj true (args.toList.map (ev env))):=Rr
theorem VC{T:aT}:dT P ag ⟨dst,.makeMap T none,ty,pos,af,g⟩ ⟨env,heap⟩ K ()=K {v:=.map heap.length,aX:=[.map false []]}:=K1
theorem VM{T:aT}:dX P ag ⟨dst,.makeMap T none,ty,pos,af,g⟩ L ⟨env,heap⟩ ()=eJ dst ⟨env,heap⟩ L {v:=.map heap.length,aX:=[.map false []]}:=KJ
theorem Xk{s x:ay}{T X:aT}:dT P ag ⟨dst,.call {callee:=.builtin .append,args:=#[s,x],argTypes:=#[T,X]},ty,pos,af,g⟩ ⟨env,heap⟩ K ()=cG K (pO P T X heap (ev env s) (ev env x)):=LV
theorem WW{s x:ay}{T X:aT}:dX P ag ⟨dst,.call {callee:=.builtin .append,args:=#[s,x],argTypes:=#[T,X]},ty,pos,af,g⟩ L ⟨env,heap⟩ ()=cG (eJ dst ⟨env,heap⟩ L) (pO P T X heap (ev env s) (ev env x)):=Lb
theorem aof{s x:ay}{T X:aT}:dT P ag ⟨dst,.call {callee:=.builtin .copy,args:=#[s,x],argTypes:=#[T,X]},ty,pos,af,g⟩ ⟨env,heap⟩ K ()=cG K (copyV P T heap (ev env s) (ev env x)):=O3
theorem aG5{s x:ay}{T X:aT}:dX P ag ⟨dst,.call {callee:=.builtin .copy,args:=#[s,x],argTypes:=#[T,X]},ty,pos,af,g⟩ L ⟨env,heap⟩ ()=cG (eJ dst ⟨env,heap⟩ L) (copyV P T heap (ev env s) (ev env x)):=OO
theorem agt{f:a3}{fi ca:List AV}{args:List AV}{M:AV->aj->Prop}:Av P heap M (.func f fi ca) args=kV P false f M (fi++args++ca) heap:=Qa
theorem aia{f:a3}{fi ca:List AV}{args:List AV}:wV P heap K (.func f fi ca) args=ng P f K (fi++args++ca) heap:=O6
theorem aht{f:a3}{fi ca:List PV}{args:List AV}{M:AV->aj->Prop}:Av P heap M (.p (.func f fi ca)) args=kV P false f M (fi.map .p++args++ca.map .p) heap:=Qb
theorem aiE{f:a3}{fi ca:List PV}{args:List AV}:wV P heap K (.p (.func f fi ca)) args=ng P f K (fi.map .p++args++ca.map .p) heap:=Qc
end ops
section guards
variable{ops:Array Oper}{o:Oper}{r:List Oper}{K:St->Prop}{want t:Bool}{s:St}{i:Nat}{acc:List Touch}
theorem UW:D7 P ag ops o r K want s (.p (.bool t))=if t=want then dX P ag o (qw P ag ops r K) s ()else qw P ag ops r K ⟨put o.dst (.p (.aE [])) s.env,s.heap⟩:=Jp
theorem Vo:D7 P ag ops o r K want s (.p (.aE []))=qw P ag ops r K ⟨put o.dst (.p (.aE [])) s.env,s.heap⟩:=J0
theorem Un:Dp P ag ops o r i acc K want s (.p (.bool t))=if t=want then dT P ag o s (zY P ag ops r i acc K o.dst s) ()else oN P ag ops r (i+1) acc K ⟨put o.dst (.p (.aE [])) s.env,s.heap⟩:=IL
theorem UU:Dp P ag ops o r i acc K want s (.p (.aE []))=oN P ag ops r (i+1) acc K ⟨put o.dst (.p (.aE [])) s.env,s.heap⟩:=Jo
end guards
theorem Ug{id:Nat}{Q:bA->St->Prop}{s:St}:rJ id Q .normal s=Q .normal s:=(rfl)
theorem Vz{id i:Nat}{Q:bA->St->Prop}{s:St}:rJ id Q (.exit i) s=if i=id then Q .normal s else Q (.exit i) s:=(rfl)
theorem WD{id:Nat}{Q:bA->St->Prop}{s:St}:rJ id Q .ret s=Q .ret s:=(rfl)
section makeFunc
variable{dst:Option Tmp}{ty:Nat}{pos:String}{af:Array Edge}{g:Option (Nat×Bool)}{env:Env}{heap:aj}{L:St->Prop}{K:aY->Prop}{f:a3}{fi ca:Array ay}
theorem Vt(hf:ag f=false):dX P ag ⟨dst,.makeFunc (.func f) fi ca,ty,pos,af,g⟩ L ⟨env,heap⟩ ()=cG (eJ dst ⟨env,heap⟩ L) (rT f (fi.toList.map (ev env)) (ca.toList.map (ev env))):=JW hf
theorem Va(hf:ag f=false):dT P ag ⟨dst,.makeFunc (.func f) fi ca,ty,pos,af,g⟩ ⟨env,heap⟩ K ()=cG K (rT f (fi.toList.map (ev env)) (ca.toList.map (ev env))):=JA hf
end makeFunc
theorem Wq{p:Prop}{e:aY}{K:aY->Prop}:cG K (some (p,e))=(p/\K e):=(rfl)
theorem Wr{K:aY->Prop}:cG K none=False:=(rfl)
theorem V8{a:Array Oper}:wG a []=true:=(rfl)
theorem US{a:Array Oper}{t:Touch}{r:List Touch}:wG a (t::r)=(r.all (fun u=>!jv u t||aHD a u.i t.i)&&wG a r):=(rfl)
theorem S6{a:List a5}{v:PV}{s:St}:sr P a v .ret s=∃vs,fL P s a=some vs/\gu s.heap 9 (oneOf vs) v:=by simp[sr]
theorem U0{a:List a5}{v:PV}{s:St}:sr P a v .normal s=∃vs,fL P s a=some vs/\gu s.heap 9 (oneOf vs) v:=by simp[sr]
section pur
variable{H:aj}
theorem xK{n:Nat}{a v:PV}:gu H n (.p a) v=Wk a v:=by cases n<;>rfl
theorem N5{n b aC z off len:Nat}{fs:List PV}:gu H (n+1) (.sl b aC z off len) (.seq fs)=match H[b]? with
  |some (.arr _ a c es)=>aC=a/\z=c/\off+len<=es.length/\lD H n ((es.drop off).take len) fs
  |_=>False:=(rfl)
theorem aHy{n:Nat}{u u':aT}{a:List AV}{vs:List PV}:gu H (n+1) (.st u a) (.st u' vs)=(u=u'/\lD H n a vs):=(rfl)
theorem aHz{n:Nat}{a:List AV}{vs:List PV}:gu H (n+1) (.aE a) (.aE vs)=lD H n a vs:=(rfl)
theorem Nd{n b:Nat}{a:List (PV×PV)}:gu H (n+1) (.map b) (.eg a)=match H[b]? with
  |some (.map _ c)=>c=a
  |_=>False:=(rfl)
theorem aHx{n:Nat}{f a:a3}{c d:List AV}{vs b:List PV}:gu H (n+1) (.func f c d) (.func a vs b)=(f=a/\lD H n c vs/\lD H n d b):=(rfl)
theorem yJ{n:Nat}{vs:List PV}:lD H n [] vs=(vs=[]):=(rfl)
theorem Cs{n:Nat}{x:AV}{a:List AV}{v:PV}{vs:List PV}:lD H n (x::a) (v::vs)=(gu H n x v/\lD H n a vs):=(rfl)
theorem Dz{α:Type}{n:Nat}{g:α->AV}{f:α->PV}:∀{l:List α},lD H n (l.map g) (l.map f)=∀x∈l,gu H n (g x) (f x)
 |[]=>by simp[yJ]
 |a::l=>by simp[Cs,Dz (l:=l)]
theorem ru(n:Nat)(c:∀(x:AV)(v:PV),gu H n x v->∃v',eB H n x=some v'/\Wk v' v):∀(b:List AV)(vs:List PV),lD H n b vs->∃a,jh (eB H n) b=some a/\bD a vs
 |[],vs,h=>by rw[yJ]at h;subst h;exact⟨[],rfl,by simp[bD]⟩
 |x::b,vs,h=>by
  cases vs with
  |nil=>exact h.elim
  |cons v vs=>
   rw[Cs]at h;obtain⟨p,d,e⟩:=c x v h.1;obtain⟨a,f,g⟩:=ru n c b vs h.2;exact⟨p::a,by simp[jh,d,f],by simp only[bD];exact⟨e,g⟩⟩
theorem pV:∀(n:Nat)(x:AV)(v:PV),gu H n x v->∃v',eB H n x=some v'/\Wk v' v
 |0,x,v,h=>by
  cases x with
  |p a=>exact⟨_,rfl,h⟩
  |_=>exact h.elim
 |n+1,x,v,h=>by
  cases x with
  |p a=>rw[xK]at h;exact⟨_,rfl,h⟩
  |sl b aC z off len=>
   cases v with
   |seq fs=>
    rw[N5]at h
    split at h
    case h_2=>exact h.elim
    rename_i k C E j e;obtain⟨rfl,rfl,m,g⟩:=h;obtain⟨i,c,d⟩:=ru n (pV n) _ _ g;simp only[eB,e,m,and_self,if_true]
    split
    ·rename_i r;rw[r.2]at g;simp only[List.drop_nil,List.take_nil,yJ]at g;exact⟨_,rfl,by rw[g];simp[Wk]⟩
    ·rw[c];exact⟨_,rfl,by simp only[Wk];exact d⟩
   |_=>exact h.elim
  |st u xs=>
   cases v with
   |st u' vs=>
    obtain⟨rfl,h⟩:=h;obtain⟨i,c,d⟩:=ru n (pV n) _ _ h;simp only[eB,c];exact⟨_,rfl,by simp only[Wk];exact⟨trivial,d⟩⟩
   |_=>exact h.elim
  |aE xs=>
   cases v with
   |aE vs=>
    obtain⟨i,c,d⟩:=ru n (pV n) _ _ h;simp only[eB,c];exact⟨_,rfl,by simp only[Wk];exact d⟩
   |_=>exact h.elim
  |ptr b path=>
   cases v with
   |cr t=>
    change (match H[b]? with
     |some (.box _ y)=>match eX y path with
      |some s=>gu H n s t
      |none=>False
     |_=>False)at h
    split at h
    case h_2=>exact h.elim
    rename_i e
    split at h
    case h_2=>exact h.elim
    rename_i s hs;obtain⟨p,c,d⟩:=pV n _ _ h;simp only[eB,e,hs,c];exact⟨_,rfl,by simp only[Wk];exact d⟩
   |_=>exact h.elim
  |cd _ _ _ _ _=>exact h.elim
  |map b=>
   cases v with
   |eg j=>
    rw[Nd]at h
    split at h
    case h_2=>exact h.elim
    rename_i fz w e;subst h;simp only[eB,e];exact⟨_,rfl,Wk.refl _⟩
   |_=>exact h.elim
  |func f xs D=>
   cases v with
   |func A vs us=>
    obtain⟨rfl,h,l⟩:=h;obtain⟨i,c,d⟩:=ru n (pV n) _ _ h;obtain⟨B,o,q⟩:=ru n (pV n) _ _ l;simp only[eB,c,o];exact⟨_,rfl,by simp only[Wk];exact⟨trivial,d,q⟩⟩
   |_=>exact h.elim
end pur
theorem X1{f:a3}{fn:Func}(ag:a3->Bool)(h:au P f fn)(n:P.follows .mixedOrders=true){args:List PV}{v:PV}(o:args.length<=fn.ntmps)
 (d:eP P ag (fn.ntmps,0) (fn.body.getD .skip) (sr P fn.results.toList v) ⟨iT 0 (args.map .p),[]⟩):so P f args v:=by
 have hs:=h.stat;simp only[av,bne_iff_ne]at hs;have k:fn.body=some (fn.body.getD .skip):=by
  have a:=hs.1.1;clear d hs;cases l:fn.body with
  |none=>rw[l]at a;simp at a
  |some c=>rfl
 obtain⟨e,s,⟨a,vs,g,b⟩,j⟩:=nN _ _ _ (l7 (Q':=sr P fn.results.toList v) _ (fun _ _ h=>h) d);obtain⟨v',b,i⟩:=pV _ _ _ b;have m:so P f args v':=LK (ph ag) (yp (ph ag) n) h.enters h.func k hs.2 o (j (Ends P fn.results.toList v') ⟨by cases e<;>exact a,vs,g,b⟩);exact m.c8 (bD.refl _) i
theorem aJ{f:a3}{fn:Func}(ag:a3->Bool)(h:au P f fn)(a:P.follows .mixedOrders=true){args:List PV}{v:PV}(b:args.length<=fn.ntmps)
 (c:eP P ag (fn.ntmps,0) (fn.body.getD .skip) (sr P fn.results.toList v) ⟨iT 0 (args.map .p),[]⟩):aB P f args v:=.inl (X1 ag h a b c)
theorem RC{α:Type}{N:Nat×Nat->Prop}{f:α->PV}{l:List α}:aV N (l.map fun x=>.p (f x))=True:=by
 rw[cM,eq_iff_iff,iff_true];intro v a;simp only[bW]at a;obtain⟨x,_,rfl⟩:=a;trivial
theorem aHK{α:Type}{N:Nat×Nat->Prop}{f:α->PV}{l:List α}{i:Nat}:aV N ((l.map fun x=>.p (f x)).take i)=True:=by
 rw[cM,eq_iff_iff,iff_true];intro v a;have a:=List.mem_of_mem_take a;simp only[bW]at a;obtain⟨x,_,rfl⟩:=a;trivial
theorem W5{N:Nat×Nat->Prop}{a b:List AV}:aV N (a++b)=(aV N a/\aV N b):=by
 simp only[cM,dq,eq_iff_iff];exact⟨fun h=>⟨fun v c=>h v (.inl c),fun v c=>h v (.inr c)⟩,fun h v c=>c.elim (h.1 v) (h.2 v)⟩
theorem TX{α:Type}{l:List α}{i:Nat}:(l.take i).take i=l.take i:=by simp[List.take_take]
theorem TW{α β:Type}{f:α->β}{l:List α}:(l.map f).take l.length=l.map f:=List.take_of_length_le s_
section loops
variable{α:Type}(N:Nat)(mk:α->St)(ok:α->Prop)(m:α->Nat)(n:Nat)(Q:bA->St->Prop)
def Fj(s:Tg (N,mk,ok,m,n) St):Prop:=uS N mk ok m n s
def Ad(e:Tg (N,mk,ok,m,n,Q) bA)(s:Tg (N,mk,ok,m,n,Q) St):Prop:=rU N mk ok m n Q e s
variable{N}{mk}{ok}{m}{n}{Q}{s s':St}
theorem Uz:Ad N mk ok m n Q .normal s=Fj N mk ok m n s:=(rfl)
theorem VU{id:Nat}:Ad N mk ok m n Q (.exit id) s=Q (.exit id) s:=(rfl)
theorem WQ:Ad N mk ok m n Q .ret s=Q .ret s:=(rfl)
theorem lp{c:Nat}{b:Code}(mk:α->St)(ok:α->Prop)(m:α->Nat)(a0:α)(d:ok a0)(im:∀a,ok a->eP P ag (c,N) b (Ad N mk ok m (m a) Q) (mk a))
 (hn:(mk a0).heap.take N=s.heap.take N:=by simp)(he:ml (mk a0).heap s.env (mk a0).env:=by simp)(hh:ij (mk a0).heap s.heap (mk a0).heap:=by simp)(hr:iu (mk a0).heap (mk a0).env:=by simp)(hr2:dE (mk a0).heap (mk a0).heap:=by simp):
 eP P ag (c,N) (.loop b) Q s:=wl (q:=(c,N)) mk ok m a0 d im hn he hh hr hr2
theorem rd(a':α)(a:ok a')(h1:m a'<n:=by omega)(hn:(mk a').heap.take N=s.heap.take N:=by simp)(he:ml (mk a').heap s.env (mk a').env:=by simp)(hh:ij (mk a').heap s.heap (mk a').heap:=by simp)(hr:iu (mk a').heap (mk a').env:=by simp)(hr2:dE (mk a').heap (mk a').heap:=by simp):
 Fj N mk ok m n s:=rnd a' a h1 hn he hh hr hr2
end loops
section calls
variable{f:a3}{H H1:aj}{K:AV->aj->Prop}{L:aY->Prop}{v a b c d e a' b' c' d' e':PV}
theorem c0(h:aB P f [] v)(hk:K (.p v) H):kV P false f K [] H:=cw0 h hk
theorem c1(h:aB P f [a'] v)(hk:K (.p v) H)(h1:Wk a a':=by first|exact Wk.refl _|simp):kV P false f K [.p a] H:=cw1 h hk h1
theorem c2(h:aB P f [a',b'] v)(hk:K (.p v) H)(h1:Wk a a':=by first|exact Wk.refl _|simp)(c:Wk b b':=by first|exact Wk.refl _|simp):kV P false f K [.p a,.p b] H:=cw2 h hk h1 c
theorem c3(h:aB P f [a',b',c'] v)(hk:K (.p v) H)(h1:Wk a a':=by first|exact Wk.refl _|simp)(d:Wk b b':=by first|exact Wk.refl _|simp)(e:Wk c c':=by first|exact Wk.refl _|simp):kV P false f K [.p a,.p b,.p c] H:=cw3 h hk h1 d e
theorem c4(h:aB P f [a',b',c',d'] v)(hk:K (.p v) H)(e:Wk a a':=by first|exact Wk.refl _|simp)(g:Wk b b':=by first|exact Wk.refl _|simp)(i:Wk c c':=by first|exact Wk.refl _|simp)(j:Wk d d':=by first|exact Wk.refl _|simp):kV P false f K [.p a,.p b,.p c,.p d] H:=cw4 h hk e g i j
theorem c5(h:aB P f [a',b',c',d',e'] v)(hk:K (.p v) H)(g:Wk a a':=by first|exact Wk.refl _|simp)(i:Wk b b':=by first|exact Wk.refl _|simp)(j:Wk c c':=by first|exact Wk.refl _|simp)(k:Wk d d':=by first|exact Wk.refl _|simp)(l:Wk e e':=by first|exact Wk.refl _|simp):kV P false f K [.p a,.p b,.p c,.p d,.p e] H:=cw5 h hk g i j k l
theorem e0(h:aB P f [] v)(hk:L {v:=.p v}):ng P f L [] H:=ce0 h hk
theorem e1(h:aB P f [a'] v)(hk:L {v:=.p v})(h1:Wk a a':=by first|exact Wk.refl _|simp):ng P f L [.p a] H:=ce1 h hk h1
theorem e2(h:aB P f [a',b'] v)(hk:L {v:=.p v})(h1:Wk a a':=by first|exact Wk.refl _|simp)(c:Wk b b':=by first|exact Wk.refl _|simp):ng P f L [.p a,.p b] H:=ce2 h hk h1 c
theorem e3(h:aB P f [a',b',c'] v)(hk:L {v:=.p v})(h1:Wk a a':=by first|exact Wk.refl _|simp)(d:Wk b b':=by first|exact Wk.refl _|simp)(e:Wk c c':=by first|exact Wk.refl _|simp):ng P f L [.p a,.p b,.p c] H:=ce3 h hk h1 d e
theorem e4(h:aB P f [a',b',c',d'] v)(hk:L {v:=.p v})(e:Wk a a':=by first|exact Wk.refl _|simp)(g:Wk b b':=by first|exact Wk.refl _|simp)(i:Wk c c':=by first|exact Wk.refl _|simp)(j:Wk d d':=by first|exact Wk.refl _|simp):ng P f L [.p a,.p b,.p c,.p d] H:=ce4 h hk e g i j
theorem e5(h:aB P f [a',b',c',d',e'] v)(hk:L {v:=.p v})(g:Wk a a':=by first|exact Wk.refl _|simp)(i:Wk b b':=by first|exact Wk.refl _|simp)(j:Wk c c':=by first|exact Wk.refl _|simp)(k:Wk d d':=by first|exact Wk.refl _|simp)(l:Wk e e':=by first|exact Wk.refl _|simp):ng P f L [.p a,.p b,.p c,.p d,.p e] H:=ce5 h hk g i j k l
theorem cp{args:List AV}{vs a:List PV}(h:aB P f a v)(b:nD H args=some (vs,H1))(hk:K (.p v) H1)(h1:bD vs a:=by first|exact bD.refl _|simp):kV P false f K args H:=cwp h b hk h1
theorem ep{args:List AV}{vs a:List PV}{bs:List Nat}{al aK:List (Nat×Obj)}(h:aB P f a v)(b:oH H args=some (vs,bs))(hf:lL H bs=some (al,aK))(hk:L {v:=.p v,al,aK})(h1:bD vs a:=by first|exact bD.refl _|simp):ng P f L args H:=cep h b hf hk h1
theorem ci{args:List AV}{H':aj}{v:AV}(h:cC P f H args H' v)(hk:K v H'):kV P false f K args H:=.inr ⟨rfl,.inr (.inl ⟨H',v,h,hk⟩)⟩
end calls
attribute [simp] RC aHK W5 TX xK N5 aHy aHz Nd aHx yJ Cs Dz TW aV Ug Vz WD UW Vo Un UU Vt Va Wq Wr V8 US S6 U0 Uz VU WQ nD lx oH mH lL mA
 aLG XJ aLE aLF XH aLD XI bu Lz aLC UD Wh Wo Vb Xa YZ YF aLH XG WL aLP XF WK ara Xj arN Za anS Y9 Uc apV Y4 amY asS aob VD U6 U5 Y7 aog anX aHg WV aHk YO aG2 YN Uj aHa YI aG1 aHm aG4 VN Ut UI YL aG7 aG3 Y5 YJ Xh WT U3 UG Xi WU Y6 YK arE aHi U4 UH U9 Vs aqk aHf ap2 aHe VC VM Xk WW aof aG5 agt aia aht aiE
end
section
variable{P:a4}{ag:a3->Bool}{q:Cx}
theorem Kx{r:eC}{K a:aY->Prop}(hk:∀e,K e->a e)(h:bh r K):bh r a:=by
 unfold bh at h⊢
 split at h
 ·exact⟨h.1,hk _ h.2⟩
 ·exact h.elim
theorem VS{o:Oper}{e:Env}{H:aj}{K a:aY->Prop}(hk:∀e,K e->a e)(h:fG P ag o (ev e) H K):fG P ag o (ev e) H a:=by
 obtain⟨x,b,c⟩:=Dc (ag:=ag) o (ev e) H K h;exact c a (hk x b)
theorem L3{o:Oper}{e:Env}{H:aj}{K a:aY->Prop}(hk:∀e,K e->a e)(h:ln P ag o e H K):ln P ag o e H a:=by
 unfold ln at h⊢
 repeat' split at h
 all_goals first|exact hk _ h|exact Kx hk h|exact⟨h.1,Kx hk h.2⟩|exact VS hk h|exact h.elim
theorem Jl{d:Bool}{f:a3}{args:List AV}{H:aj}{K i:AV->aj->Prop}(hk:∀v H,K v H->i v H)(h:ie P d f args H K):ie P d f args H i:=by
 rcases h with⟨vs,v,a,b,c⟩|⟨g,⟨vs,H1,v,a,b,c⟩|⟨H',v,a,b⟩|⟨e,a,b,c⟩|⟨al,v,a,b,c⟩⟩
 ·exact .inl ⟨vs,v,a,b,hk _ _ c⟩
 ·exact .inr ⟨g,.inl ⟨vs,H1,v,a,b,hk _ _ c⟩⟩
 ·exact .inr ⟨g,.inr (.inl ⟨H',v,a,hk _ _ b⟩)⟩
 ·exact .inr ⟨g,.inr (.inr (.inl ⟨e,a,b,hk _ _ c⟩))⟩
 ·exact .inr ⟨g,.inr (.inr (.inr ⟨al,v,a,b,hk _ _ c⟩))⟩
theorem JG{f:a3}{args:List AV}{H:aj}{K d:aY->Prop}(hk:∀e,K e->d e)(h:ir P f args H K):ir P f args H d:=by
 rcases h with⟨vs,v,a,b,c⟩|⟨vs,bs,al,aK,v,a,b,c,g⟩|⟨e,a,b,c⟩|⟨al,v,a,b,c⟩
 ·exact .inl ⟨vs,v,a,b,hk _ c⟩
 ·exact .inr (.inl ⟨vs,bs,al,aK,v,a,b,c,hk _ g⟩)
 ·exact .inr (.inr (.inl ⟨e,a,b,hk _ c⟩))
 ·exact .inr (.inr (.inr ⟨al,v,a,b,hk _ c⟩))
theorem I3{o:Oper}{K b:St->Prop}{s:St}(hk:∀s,K s->b s)(h:dt P ag o K s):dt P ag o b s:=by
 unfold dt at h⊢
 split at h
 ·rename_i f args g i;unfold rS at h⊢
  split at h
  ·exact Jl (fun v H a=>hk _ a) h
  ·exact Jl (fun v H a=>hk _ a) h
  ·obtain⟨H',v,c,d⟩:=h;exact⟨H',v,c,hk _ d⟩
  ·exact h.elim
 ·exact L3 (fun e a=>hk _ a) h
theorem Jr{o:Oper}{s:St}{K a:aY->Prop}(hk:∀e,K e->a e)(h:du P ag o s K):du P ag o s a:=by
 unfold du at h⊢
 split at h
 ·rename_i f args g i;unfold rH at h⊢
  split at h
  ·exact JG hk h
  ·exact JG hk h
  ·obtain⟨e,b,c,d⟩:=h;exact⟨e,b,c,hk _ d⟩
  ·exact h.elim
 ·exact L3 hk h
theorem vr{c:Array Oper}:∀(l:List Oper){K a:St->Prop}{s:St},(∀s,K s->a s)->gp P ag c l K s->gp P ag c l a s
 |[],K,a,s,hk,h=>hk s h
 |o::l,K,a,s,hk,h=>by
  simp only[gp]at h⊢
  split at h
  ·exact I3 (fun s hs=>vr l hk hs) h
  ·split at h
   ·split at h
    ·rename_i b;rw[if_pos b];exact I3 (fun s hs=>vr l hk hs) h
    ·rename_i b;rw[if_neg b];exact vr l hk h
   ·exact vr l hk h
   ·exact h.elim
theorem vo{d:Array Oper}:∀(l:List Oper){i:Nat}{b:List Touch}{K a:St->Prop}{s:St},(∀s,K s->a s)->gF P ag d l i b K s->gF P ag d l i b a s
 |[],i,b,K,a,s,hk,h=>⟨h.1,hk s h.2⟩
 |o::l,i,b,K,a,s,hk,h=>by
  simp only[gF]at h⊢
  split at h
  ·exact Jr (fun e hs=>vo l hk hs) h
  ·split at h
   ·split at h
    ·rename_i c;rw[if_pos c];exact Jr (fun e hs=>vo l hk hs) h
    ·rename_i c;rw[if_neg c];exact vo l hk h
   ·exact vo l hk h
   ·exact h.elim
theorem nM:∀(c:Code){Q g:bA->St->Prop}{s:St},(∀e s,Q e s->g e s)->dm P ag q c Q s->dm P ag q c g s
 | .skip,Q,g,s,hq,h=>hq _ _ h
 | .label _,Q,g,s,hq,h=>hq _ _ h
 | .exit _,Q,g,s,hq,h=>hq _ _ h
 | .ret,Q,g,s,hq,h=>hq _ _ h
 | .region _ ops draw,Q,g,s,hq,h=>by
  simp only[dm]at h⊢
  split at h
  ·rename_i j;rw[if_pos j];exact vo _ (fun s hs=>hq _ _ hs) h
  ·rename_i j;rw[if_neg j];exact vr _ (fun s hs=>hq _ _ hs) h
 | .seq a b,Q,g,s,hq,h=>by
  simp only[dm]at h⊢;refine nM a (fun e s d=>?_) h;cases e with
  |normal=>exact nM b hq d
  |exit i=>exact hq _ _ d
  |ret=>exact hq _ _ d
 | .cond c a b,Q,g,s,hq,h=>by
  simp only[dm]at h⊢;unfold ue at h⊢
  split at h
  ·split at h
   ·rename_i k;rw[if_pos k];exact nM a hq h
   ·rename_i k;rw[if_neg k];exact nM b hq h
  ·exact h.elim
 | .block id b,Q,g,s,hq,h=>by
  simp only[dm]at h⊢;refine nM b (fun e s d=>?_) h;cases e with
  |normal=>exact hq _ _ d
  |exit i=>
   simp only[oB]at d⊢
   by_cases hi:i=id
   ·simp only[hi,if_true]at d⊢;exact hq _ _ d
   ·simp only[hi,if_false]at d⊢;exact hq _ _ d
  |ret=>exact hq _ _ d
 | .scope b,Q,g,s,hq,h=>nM b hq h
 | .loop b,Q,g,s,hq,h=>by
  simp only[dm]at h⊢;obtain⟨I,l,m⟩:=h;refine⟨I,l,fun n t hI=>nM b (fun e s d=>?_) (m n t hI)⟩;cases e with
  |normal=>exact d
  |exit id=>exact hq _ _ d
  |ret=>exact hq _ _ d
 | .rangeFunc f o a b,Q,g,s,hq,h=>by
  simp only[dm]at h⊢;exact⟨h.1,J9 (fun H=>Kd hq) h.2⟩
 | .goto _,_,_,_,_,h=>h.elim
 | .refuse _,_,_,_,_,h=>h.elim
def rW(R:St->Prop)(Q:bA->St->Prop)(e:Tg (R,Q) bA)(s:Tg (R,Q) St):Prop:=match e with
 | .normal=>R s
 |e=>Q e s
theorem Ur{R:St->Prop}{Q:bA->St->Prop}{s:St}:rW R Q .normal s=R s:=(rfl)
theorem VZ{R:St->Prop}{Q:bA->St->Prop}{id:Nat}{s:St}:rW R Q (.exit id) s=Q (.exit id) s:=(rfl)
theorem Xp{R:St->Prop}{Q:bA->St->Prop}{s:St}:rW R Q .ret s=Q .ret s:=(rfl)
theorem join{a b:Code}{Q:bA->St->Prop}{s:St}(R:St->Prop)(d:eP P ag q a (rW R Q) s)(f:∀s',R s'->eP P ag q b Q s'):eP P ag q (.seq a b) Q s:=by
 rw[bu];refine nM a (fun e s c=>?_) d;cases e with
 |normal=>exact f s c
 |exit i=>exact c
 |ret=>exact c
theorem RD{α:Type}{N:Nat×Nat->Prop}{f:α->PV}{l:List α}:aV N (l.map (AV.p∘f))=True:=RC
attribute [simp] Ur VZ Xp RD
end
section
variable{P:a4}{ag:a3->Bool}
def wC(P:a4)(a:List a5)(N:Nat)(H':aj)(v:AV)(e:Tg (a,N,H',v) bA)(s:Tg (a,N,H',v) St):Prop:=uk P a N H' v e s
theorem V4{a:List a5}{N:Nat}{H':aj}{v:AV}{s:St}:wC P a N H' v .ret s=∃vs,fL P s a=some vs/\oneOf vs=v/\(H'=s.heap\/(cR N s ⟨[],H'⟩/\aG (aI H') v)):=by simp[wC,uk]
theorem Ub{a:List a5}{N:Nat}{H':aj}{v:AV}{s:St}:wC P a N H' v .normal s=∃vs,fL P s a=some vs/\oneOf vs=v/\(H'=s.heap\/(cR N s ⟨[],H'⟩/\aG (aI H') v)):=by simp[wC,uk]
theorem fk{f:a3}{fn:Func}(ag:a3->Bool)(h:au P f fn)(a:P.follows .mixedOrders=true){args:List AV}{H H':aj}{v:AV}(b:args.length<=fn.ntmps)
 (c:eP P ag (fn.ntmps,H.length) (fn.body.getD .skip) (wC P fn.results.toList H.length H' v) ⟨iT 0 args,H⟩):cC P f H args H' v:=
 Qy ag h a b (l7 (Q':=uk P fn.results.toList H.length H' v) _ (fun _ _ h=>h) c)
theorem aIa{n i:Nat}:sig [] n i=n+i:=by simp[sig]
theorem cn{f:a3}{H H':aj}{K:AV->aj->Prop}{v:AV}{args:List PV}(h:cC P f [] (args.map .p) H' v)(hk:K (cL (sig [] H.length) v) (H++H'.map (cW (sig [] H.length)))):kV P false f K (args.map .p) H:=by
 refine .inr ⟨rfl,.inr (.inr (.inl ⟨dy [] H.length [] H' v,?_,⟨by simp[dy],by simp[dy]⟩,?_⟩))⟩
 ·have b:aV (aI ([]:aj)) (args.map .p):=by rw[cM];intro v c;obtain⟨x,_,rfl⟩:=bW.1 c;trivial
  have:=h.frame [] H.length rfl ea s_ s_ b s_;have e:cO (sig [] H.length) (args.map .p)=args.map .p:=by
   clear h b this hk
   induction args with
   |nil=>rfl
   |cons a r d=>simp only[b3,cO,cL,d]
  rwa [e]at this
 ·simpa[dy,bc]using hk
theorem P8{f:a3}{H H':aj}{K:AV->aj->Prop}{v:AV}{a b:PV}(h:cC P f [] [.p a,.p b] H' v)(hk:K (cL (sig [] H.length) v) (H++H'.map (cW (sig [] H.length)))):kV P false f K [.p a,.p b] H:=cn (args:=[a,b]) h hk
def Pp(P:a4)(T:aT)(f:Nat):Option (aT×jG):=match kindOf P T,P.underlying T with
 | .agg u,some (.struct _)=>((jn P u)[f]?).map fun F=>(u,kindOf P F)
 |_,_=>none
def zO(P:a4)(T:aT)(f:Nat)(x:AV):eC:=match Pp P T f,x with
 |some (u,k),.p t=>match(bY t)[f]? with
  |some g=>some (aL t=.agg u/\k=aL g,{v:=.p g})
  |none=>none
 |_,_=>none
theorem LN{T:aT}{x:AV}{f:Nat}{K:aY->Prop}:(match kindOf P T,P.underlying T,x with
  | .agg u,some (.struct _),.p t=>aL t=.agg u/\(match(bY t)[f]?,(jn P u)[f]? with
   |some g,some F=>kindOf P F=aL g/\K {v:=.p g}
   |_,_=>False)
  |_,_,_=>False)=bh (zO P T f x) K:=by
 unfold zO Pp;cases b:kindOf P T with
 |agg u=>cases c:P.underlying T with
  |none=>simp[bh]
  |some d=>cases d with
   |struct fs=>cases x with
    |p t=>cases hc:(jn P u)[f]?<;>cases a:(bY t)[f]?<;>simp[bh,a,hc,and_assoc]
    |_=>cases hc:(jn P u)[f]?<;>simp[bh,hc]
   |_=>simp[bh]
 |_=>simp[bh]
section fields
variable{dst:Option Tmp}{ty:Nat}{pos:String}{af:Array Edge}{g:Option (Nat×Bool)}{env:Env}{heap:aj}{L:St->Prop}{K:aY->Prop}{T:aT}{x:ay}{f:Nat}
theorem YM:dX P ag ⟨dst,.field T x f,ty,pos,af,g⟩ L ⟨env,heap⟩ ()=cG (eJ dst ⟨env,heap⟩ L) (zO P T f (ev env x)):=LN
theorem Y8:dT P ag ⟨dst,.field T x f,ty,pos,af,g⟩ ⟨env,heap⟩ K ()=cG K (zO P T f (ev env x)):=LN
end fields
theorem yI{σ:Nat->Nat}{α:Type}{f:α->PV}:∀{l:List α},cO σ (l.map (AV.p∘f))=l.map (AV.p∘f)
 |[]=>rfl
 |a::l=>by simp only[b3,cO,yI (l:=l)];rfl
theorem W6{σ:Nat->Nat}{α β:Type}{f:β->PV}{g:α->β}{l:List α}:cO σ (l.map ((AV.p∘f)∘g))=l.map ((AV.p∘f)∘g):=yI (f:=f∘g)
theorem aHI{α β:Type}{N:Nat×Nat->Prop}{f:β->PV}{g:α->β}{l:List α}:aV N (l.map ((AV.p∘f)∘g))=True:=RD (f:=f∘g)
attribute [simp] YM Y8 W6 aHI V4 Ub aIa cL cO cW yI
end
section
variable{P:a4}{ag:a3->Bool}
theorem Mg{T:aj}:∀{h:aj},ij T h h=True
 |[]=>by simp[ij]
 |o::h=>by simp[ij,NK,Mg (h:=h)]
theorem Da{T:aj}:∀{h k:aj},dE T (h++k)=(dE T h/\dE T k)
 |[],k=>by simp[dE]
 |o::h,k=>by simp[dE,Da (h:=h),and_assoc]
theorem aHJ{N:Nat×Nat->Prop}{n:Nat}{v:PV}:aV N (bI n (.p v))=True:=by
 rw[cM,eq_iff_iff,iff_true];intro x hx;rw[(List.mem_replicate.1 hx).2];trivial
theorem YC{σ:Nat->Nat}{α:Type}{f:α->PV}{l:List α}:cO σ (l.map fun x=>.p (f x))=l.map fun x=>.p (f x):=yI (f:=f)
theorem xH{L:dK}{e:Env}{H:aj}(h:L.env=e)(a:iu H e):∀x,aG (aI H) (aP L.env x):=by rw[h];exact a.get
def dK.bz(L:dK):dK:={L with st:=.busy}
def dK.dn(L:dK)(j:Code):dK:={L with st:=.done,pending:=some j}
def dK.xh(L:dK):dK:={L with st:=.exhausted}
theorem xJ{L:dK}{e:Env}{H:aj}{j:Code}(h:L.env=e)(a:iu H e):∀x,aG (aI H) (aP (L.dn j).env x):=xH h a
def Stream(P:a4)(g:a3)(fi ca:List PV)(d:List (List PV)):Prop:=
 ∀(b k:Nat)(c:Nat->aj)(H':aj),k<=d.length->(∀i,i<=k->dE (c i) (c i)/\aG (aI (c i)) (.map b))->
  (∀i a,i<k->d[i]?=some a->fx P b (c i) (a.map .p) (c (i+1)) (.p (.bool true)))->
  (k=d.length/\H'=c k\/∃a,d[k]?=some a/\fx P b (c k) (a.map .p) H' (.p (.bool false)))->
  cC P g (c 0) (fi.map .p++[.map b]++ca.map .p) H' (.p (.aE []))
theorem ahl{b:Nat}{args:List AV}{M:AV->aj->Prop}{heap:aj}:Av P heap M (.map b) args=∃H' v,fx P b heap args H' v/\M v H':=(rfl)
def uH(b:Nat)(L:dK)(N:Nat)(H':aj)(v:Bool)(e:Tg (b,L,N,H',v) bA)(s:Tg (b,L,N,H',v) St):Prop:=
 match e with
 | .normal=>v=true/\(St.heap s)[b]?=some (.loop L.bz)/\cR N ⟨[],(St.heap s).set b (.loop L)⟩ ⟨[],H'⟩
 | .exit id=>v=false/\(St.heap s)[b]?=some (.loop L.bz)/\cR N ⟨[],(St.heap s).set b (.loop (L.dn (.exit id)))⟩ ⟨[],H'⟩
 | .ret=>v=false/\(St.heap s)[b]?=some (.loop L.bz)/\cR N ⟨[],(St.heap s).set b (.loop (L.dn .ret))⟩ ⟨[],H'⟩
section
variable{b N:Nat}{L:dK}{H':aj}{v:Bool}{s:St}
theorem Wl:uH b L N H' v .normal s=(v=true/\s.heap[b]?=some (.loop L.bz)/\cR N ⟨[],s.heap.set b (.loop L)⟩ ⟨[],H'⟩):=(rfl)
theorem YE{id:Nat}:uH b L N H' v (.exit id) s=(v=false/\s.heap[b]?=some (.loop L.bz)/\cR N ⟨[],s.heap.set b (.loop (L.dn (.exit id)))⟩ ⟨[],H'⟩):=(rfl)
theorem aHC:uH b L N H' v .ret s=(v=false/\s.heap[b]?=some (.loop L.bz)/\cR N ⟨[],s.heap.set b (.loop (L.dn .ret))⟩ ⟨[],H'⟩):=(rfl)
end
def E5(P:a4)(ag:a3->Bool)(q:Cx)(b:Nat)(c:Code)(L:dK)(H':aj)(v:Bool)(e:Tg (q,b,c,L,H',v) bA)(s:Tg (q,b,c,L,H',v) St):Prop:=
 match e with
 | .normal=>(St.heap s)[b]?=some (.loop L)/\eP P ag q c (uH b L q.2 H' v) ⟨St.env s,(St.heap s).set b (.loop L.bz)⟩
 |_=>False
theorem Wm{q:Cx}{b:Nat}{c:Code}{L:dK}{H':aj}{v:Bool}{s:St}:E5 P ag q b c L H' v .normal s=(s.heap[b]?=some (.loop L)/\eP P ag q c (uH b L q.2 H' v) ⟨s.env,s.heap.set b (.loop L.bz)⟩):=(rfl)
theorem sQ(ag:a3->Bool)(r:P.follows .mixedOrders=true){b n:Nat}{L:dK}{H H':aj}{args:List AV}{v:Bool}{j:List Tmp}{a c:Code}{env:Env}
 (d:L=⟨.ready,none,n,j,a,c,env⟩)(o:H[b]?=some (.loop L))(q:args.length=j.length)
 (t:(j.all (fun x=>decide (x<n))&&codeOk fit n a&&codeOk fit n c)=true)
 (u:eP P ag (n,H.length) a (E5 P ag (n,H.length) b c L H' v) ⟨rF j args env,H⟩):fx P b H args H' (.p (.bool v)):=by
 refine Qz ag r o (by rw[d];exact q) (by rw[d];exact t) ?_;unfold ze;have e1:L.n=n:=by rw[d]
 have e2:L.assign=a:=by rw[d]
 have e3:L.body=c:=by rw[d]
 have e4:L.params=j:=by rw[d]
 have e5:L.env=env:=by rw[d]
 have k:L.st=.ready:=by rw[d]
 rw[e1,e2,e3,e4,e5];refine l7 (Q:=E5 P ag (n,H.length) b c L H' v) _ (fun e s h=>?_) u;cases e with
 |normal=>
  obtain⟨l,m⟩:=h;simp only[yn,l];refine⟨k,l7 (Q:=uH b L H.length H' v) _ (fun e s h=>?_) m⟩;cases e with
  |normal=>
   obtain⟨rfl,f,g⟩:=h;have i:s.heap[b]?=some (.loop L.bz):=f;simp only[tD,i,ic];refine⟨rfl,?_⟩;have:({L.bz with st:=LoopState.ready,pending:=none}:dK)=L:=by subst d;rfl
   simpa[this]using g
  |exit id=>
   obtain⟨rfl,f,g⟩:=h;have i:s.heap[b]?=some (.loop L.bz):=f;simp only[tD,i,ic];exact⟨rfl,g⟩
  |ret=>
   obtain⟨rfl,f,g⟩:=h;have i:s.heap[b]?=some (.loop L.bz):=f;simp only[tD,i,ic];exact⟨rfl,g⟩
 |exit id=>exact h.elim
 |ret=>exact h.elim
theorem rf{f:ay}{h:Array Tmp}{a c:Code}{Q:bA->St->Prop}{env:Env}{heap:aj}{q:Cx}{g:a3}{fi ca:List PV}{n:List (List PV)}(aN:Stream P g fi ca n)(hf:ev env f= .p (.func g fi ca))(hq:q.2<=heap.length)
 (X:dK->Nat->aj)(k:Nat)(hk:k<=n.length)(u:∀L,X L 0=heap++[.loop L])
 (hx:∀L,L=⟨.ready,none,q.1,h.toList,a,c,env⟩->∀i,i<=k->(X L i)[heap.length]?=some (.loop L)/\iu (X L i) env/\(iu (X L i) env->(∀x,aG (aI (X L i)) (aP L.env x))->dE (X L i) (X L i)))
 (t:∀L,L=⟨.ready,none,q.1,h.toList,a,c,env⟩->∀i x,i<k->n[i]?=some x->fx P heap.length (X L i) (x.map .p) (X L (i+1)) (.p (.bool true)))
 (y:∀L,L=⟨.ready,none,q.1,h.toList,a,c,env⟩->(k=n.length/\Q .normal ⟨env,(X L k).set heap.length (.loop L.xh)⟩)\/
  ∃x j l,n[k]?=some x/\l[heap.length]?=some (.loop (L.dn j))/\fx P heap.length (X L k) (x.map .p) l (.p (.bool false))/\je Q (some j) ⟨env,l.set heap.length (.loop (L.dn j).xh)⟩):
 eP P ag q (.rangeFunc f h a c) Q ⟨env,heap⟩:=by
 obtain⟨L,b⟩:∃L:dK,L=⟨.ready,none,q.1,h.toList,a,c,env⟩:=⟨_,rfl⟩
 have s:=aN heap.length k (X L);refine⟨hq,?_⟩;show jq P (ev env f) heap.length (heap++[.loop ⟨.ready,none,q.1,h.toList,a,c,env⟩]) (iE heap.length env Q);rw[hf];simp only[jq];rw[<-b,<-u L];have r:∀i,i<=k->dE (X L i) (X L i)/\aG (aI (X L i)) (.map heap.length):=by
  intro i hi;obtain⟨m,d,o⟩:=hx L b i hi;have e5:L.env=env:=by rw[b]
  refine⟨o d (by rw[e5];exact d.get),?_⟩;simp only[aG,aI,m];exact⟨_,rfl,by simp[Obj.has]⟩
 rcases y L b with⟨m,d⟩|⟨x,j,l,m,d,o,v⟩
 ·refine⟨_,_,s (X L k) hk r (t L b) (.inl ⟨m,rfl⟩),?_⟩;have w:=(hx L b k (ee k)).1;simp only[iE,w];refine⟨by rw[b];simp,?_⟩;have:L.pending=none:=by rw[b]
  simp only[this,je];have e:L.xh={L with st:=.exhausted}:=rfl;rw[this]at e;rw[e]at d;exact d
 ·refine⟨_,_,s l hk r (t L b) (.inr ⟨x,m,o⟩),?_⟩;simp only[iE,d];exact⟨by simp[dK.dn],v⟩
section axv
variable{f:a3}{H0 bX H:aj}{fP args:List AV}{v0:AV}{K:AV->aj->Prop}{L:aY->Prop}
theorem GV(h:cC P f H0 fP bX v0)(bs:List Nat)(e:bs.length=H0.length)(i:bs.Nodup)(g:∀b∈bs,b<H.length)(d:H0.length<=bX.length)(a:aV (aI H0) fP)(j:dE H0 H0)(c:cO (sig bs H.length) fP=args):
 sq P f args H.length (dy bs H.length H0 bX v0):=by
 have:=h.frame bs H.length e i g d a j.get
 rwa [c]at this
theorem cf(h:cC P f H0 fP bX v0)(bs:List Nat)(hk:K (cL (sig bs H.length) v0) (bc H (bs.zip ((bX.take H0.length).map (cW (sig bs H.length))))++(bX.drop H0.length).map (cW (sig bs H.length))))(al:∀p∈bs.zip (H0.map (cW (sig bs H.length))),H[p.1]?=some p.2:=by simp[sig])(aK:∀p∈bs.zip ((bX.take H0.length).map (cW (sig bs H.length))),p.1<H.length/\p.2≠ .hole:=by simp[sig])
 (e:bs.length=H0.length:=by simp)(i:bs.Nodup:=by simp)(g:∀b∈bs,b<H.length:=by simp)(d:H0.length<=bX.length:=by simp)(a:aV (aI H0) fP:=by simp)(hr:dE H0 H0:=by simp)(c:cO (sig bs H.length) fP=args:=by simp[sig]):kV P false f K args H:=
 .inr ⟨rfl,.inr (.inr (.inl ⟨_,GV h bs e i g d a hr c,⟨al,aK⟩,hk⟩))⟩
theorem ef(h:cC P f H0 fP bX v0)(bs:List Nat)(hk:L {v:=cL (sig bs H.length) v0,al:=bs.zip (H0.map (cW (sig bs H.length))),aK:=bs.zip ((bX.take H0.length).map (cW (sig bs H.length))),aX:=(bX.drop H0.length).map (cW (sig bs H.length))})(al:∀p∈bs.zip (H0.map (cW (sig bs H.length))),H[p.1]?=some p.2:=by simp[sig])(aK:∀p∈bs.zip ((bX.take H0.length).map (cW (sig bs H.length))),p.1<H.length/\p.2≠ .hole:=by simp[sig])
 (e:bs.length=H0.length:=by simp)(i:bs.Nodup:=by simp)(g:∀b∈bs,b<H.length:=by simp)(d:H0.length<=bX.length:=by simp)(a:aV (aI H0) fP:=by simp)(j:dE H0 H0:=by simp)(c:cO (sig bs H.length) fP=args:=by simp[sig]):ng P f L args H:=
 .inr (.inr (.inl ⟨_,GV h bs e i g d a j c,⟨al,aK⟩,hk⟩))
end axv
section bytes
variable{dst:Option Tmp}{ty:Nat}{pos:String}{af:Array Edge}{g:Option (Nat×Bool)}{env:Env}{heap:aj}{L:St->Prop}{K:aY->Prop}
theorem arX{x:ay}{d:Array aT}{b aC ai off len:Nat}{k:AK}{es:List AV}(hx:ev env x= .sl b aC ai off len)(f:heap[b]?=some (.arr k aC ai es))(e:0<len)(h:off+len<=es.length)
 (hk:K {v:=.cd b aC ai off [],al:=[(b,.arr k aC ai es)]}):dT P ag ⟨dst,.call {callee:=.builtin .unsafeSliceData,args:=#[x],argTypes:=d},ty,pos,af,g⟩ ⟨env,heap⟩ K ():=by
 show(match ev env x with
   | .p .aO=>K {v:=.p .dL}
   | .sl b aC ai off len=>(match heap[b]? with
    |some (.arr k c a es)=>aC=c/\ai=a/\((k.gr=true/\es=[]/\K {v:=.p .dL,al:=[(b,.arr k c a es)]})\/(0<len/\off+len<=es.length/\K {v:=.cd b aC ai off [],al:=[(b,.arr k c a es)]}))
    |_=>False)
   |_=>False)
 rw[hx];simp only[f];exact⟨trivial,trivial,.inr ⟨e,h,hk⟩⟩
theorem as0{x y:ay}{a:Array aT}{b aC:Nat}{m:Int}{es:List AV}{l:List Nat}(hx:ev env x= .cd b aC 1 0 [])(o:ev env y= .p (.int .i64 m))(i:heap[b]?=some (.arr .bytes aC 1 es))(c:0<m)(k:m.toNat<=es.length)(d:m<=9223372036854775807)
 (f:a.size=2)(e:ptrTo P (a.getD 0 0)=some Gl.u8)(n:P.cellsOf Gl.u8=1)(j:bytesOf (es.take m.toNat)=some l)
 (hk:K {v:=.p (.str l),al:=[(b,.arr .bytes aC 1 es)],aK:=[(b,.dead)]}):dT P ag ⟨dst,.call {callee:=.builtin .unsafeString,args:=#[x,y],argTypes:=a},ty,pos,af,g⟩ ⟨env,heap⟩ K ():=by
 have h:fG P ag ⟨dst,.call {callee:=.builtin .unsafeString,args:=#[x,y],argTypes:=a},ty,pos,af,g⟩ (ev env) heap K:=by
  unfold fG;simp only[b3,List.map_nil,hx,o,i];exact⟨trivial,trivial,trivial,trivial,c,k,d,f,e,n,by rw[j];exact hk⟩
 exact h
end bytes
theorem rf2{f:ay}{h:Array Tmp}{a c:Code}{Q:bA->St->Prop}{env:Env}{heap:aj}{q:Cx}{g:a3}{fi ca:List PV}{b:List (List PV)}(aN:Stream P g fi ca b)(hf:ev env f= .p (.func g fi ca))(hq:q.2<=heap.length)
 (X F:dK->Nat->aj)(okB:Nat->Bool)(j:Code)(k:Nat)(hk:k<=b.length)(u:∀i,i<k->okB i=true)(r:k=b.length\/(k<b.length/\okB k=false))(m:∀L,X L 0=heap++[.loop L])
 (hx:∀L,L=⟨.ready,none,q.1,h.toList,a,c,env⟩->∀i,i<=k->(X L i)[heap.length]?=some (.loop L)/\iu (X L i) env/\(iu (X L i) env->(∀x,aG (aI (X L i)) (aP L.env x))->dE (X L i) (X L i)))
 (l:∀L,L=⟨.ready,none,q.1,h.toList,a,c,env⟩->∀i x,i<=k->b[i]?=some x->fx P heap.length (X L i) (x.map .p) (if okB i=true then X L (i+1)else F L (i+1)) (.p (.bool (okB i))))
 (n:∀L,(F L (k+1))[heap.length]?=some (.loop (L.dn j)))
 (s:k=b.length->∀L,Q .normal ⟨env,(X L k).set heap.length (.loop L.xh)⟩)
 (v:k<b.length->∀L,je Q (some j) ⟨env,(F L (k+1)).set heap.length (.loop (L.dn j).xh)⟩):
 eP P ag q (.rangeFunc f h a c) Q ⟨env,heap⟩:=by
 refine rf aN hf hq X k hk m hx (fun L e i x hi t=>?_) (fun L e=>?_)
 ·have:=l L e i x o_ t;rw[u i hi]at this;exact this
 ·rcases r with d|⟨d,o⟩
  ·exact .inl ⟨d,s d L⟩
  ·right;refine⟨b[k],j,F L (k+1),bl d,n L,?_,v d L⟩;have:=l L e k b[k] (ee _) (bl d);rw[o]at this;exact this
attribute [simp] YC aHJ Mg Da Wl YE aHC Wm ahl rF
end
section
variable{P:a4}{ag:a3->Bool}{w:a7}{ad ah:Nat->Prop}{β:Bd}{H:aj}
def aOv(K:Nat->Bool)(H:aj):aj:=H.mapIdx fun i o=>if K i then .dead else o
def aMi(K:Nat->Bool)(ad:Nat->Prop)(β:Bd)(H:aj)(k:Nat):Prop:=ad k\/∃(b:Nat)(o:Obj),H[b]?=some o/\o.live/\K b=true/\β.an b=k
theorem fC.held{b:Nat}{o:Obj}(h:fC P w ad β H ah b o)(a:o.live):ad (β.an b)\/¬ah (β.an b):=by
 by_cases hi:ad (β.an b)
 ·exact .inl hi
 ·exact .inr (h.mut a hi)
end
section
variable{P:a4}{w:a7}{ad ah:Nat->Prop}{β:Bd}
theorem tt{t t':AV}{r:aj}:cw β (.box false t::r) β (.box false t'::r):=by
 refine⟨fun b _ h=>⟨?_,rfl⟩,fun b _ h=>⟨?_,rfl⟩,fun b _ h=>⟨?_,rfl⟩,fun b aC ai k c _ h=>⟨k,c,?_,ee _,Iff.rfl,fun _=>⟨rfl,rfl⟩⟩,fun b _ h=>⟨?_,rfl⟩⟩
 ·cases b with
  |zero=>exact⟨false,t,rfl⟩
  |succ b=>exact h
 ·obtain⟨s,q,h⟩:=h;cases b with
  |zero=>simp at h
  |succ b=>exact⟨s,q,h⟩
 ·obtain⟨d,h,a⟩:=h;cases b with
  |zero=>simp at h;subst h;exact a.elim
  |succ b=>exact⟨d,h,a⟩
 ·cases b with
  |zero=>simp[fh]at h
  |succ b=>exact h
 ·obtain⟨L,h⟩:=h;cases b with
  |zero=>simp at h
  |succ b=>exact⟨L,h⟩
theorem ri{t t':AV}{r:aj}{x:Nat×Nat}(h:aI (.box false t::r) x):aI (.box false t'::r) x:=by
 obtain⟨o,a,c⟩:=h;obtain⟨b,v⟩:=x;cases b with
 |zero=>exact⟨_,rfl,trivial⟩
 |succ b=>exact⟨o,a,c⟩
theorem b7.swap{t d:AV}{r:aj}(c:b7 P w ad β (.box false t::r) ah)(hc:∀cs,bn P w ad β (.box false t::r) t cs->bn P w ad β (.box false t::r) d cs)(l:∀T,jy T (aa d)=true)
 (g:∀n,aG n t->aG n d):b7 P w ad β (.box false d::r) ah:=by
 refine⟨fun b o a=>?_,fun b b' o o' a s f p q m=>?_,fun b o a=>?_,c.bS,c.eM,c.jg⟩
 ·cases b with
  |zero=>
   simp at a;subst a;obtain⟨cs,T,i,j,k,y,z⟩:=c.cK 0 _ rfl;have u:=c.refs 0 _ rfl;exact⟨cs,T,i,bn.mono (fun _ x=>x) (fun _ _=>rfl) tt _ _ (g _ u) (hc _ j),k,(fun h=>absurd h s_),l T⟩
  |succ b=>exact fC.carry (fun _ x=>x) (fun _ _=>rfl) tt (c.refs (b+1) o a) (fun _=>⟨rfl,rfl,rfl⟩) (fun _ _ h=>h) (c.cK (b+1) o a)
 ·have key:∀{b:Nat}{o:Obj},(Obj.box false d::r)[b]?=some o->o.live->∃e,(Obj.box false t::r)[b]?=some e/\e.live:=by
   intro b o a f;cases b with
   |zero=>exact⟨_,rfl,trivial⟩
   |succ b=>exact⟨o,a,f⟩
  obtain⟨e,k1,k2⟩:=key a f;obtain⟨v,k3,k4⟩:=key s p;exact c.inj b b' e v k1 k3 k2 k4 q m
 ·cases b with
  |zero=>
   simp at a;subst a;exact aG.mono (fun _ h=>ri h) _ (g _ (c.refs 0 _ rfl))
  |succ b=>exact Obj.yF (fun _ h=>ri h) (c.refs (b+1) o a)
theorem Mq{H:aj}{u:aT}{n:Nat}(f:dA P u=some [n]){t:AV}{cs:List a6}:bn P w ad β H (.st u [t]) cs↔bn P w ad β H t cs/\cs.length=n:=by
 simp only[bn,f,ew];constructor
 ·rintro⟨l,g,rfl,a,rfl⟩;simp only[bM]at a;obtain⟨c,d,rfl,b,e,rfl⟩:=a;simpa using⟨b,e⟩
 ·rintro⟨a,b⟩;exact⟨[n],[cs],rfl,by simp only[bM];exact⟨cs,[],rfl,a,b,rfl⟩,s_⟩
theorem cC.wrap{f:a3}{u:aT}{n:Nat}{t i:AV}{r j:aj}{args:List AV}{v:AV}(q:dA P u=some [n])(a:∀T,jy T (.agg u)=true)(F:∀T,jy T (aa t)=true)(G:∀(w:a7)(ad:Nat->Prop)(β:Bd)(H:aj)(cs:List a6),bn P w ad β H i cs->cs.length=n)
 (h:cC P f (.box false t::r) (.ptr 0 []::args) (.box false i::j) v):cC P f (.box false (.st u [t])::r) (.ptr 0 [(u,0)]::args) (.box false (.st u [i])::j) v:=by
 refine⟨h.1,fun w ad ah β O J D y=>?_⟩;have K:b7 P w ad β (.box false t::r) ah:=J.swap (fun cs h=>((Mq q).1 h).1) F (fun n h=>by simpa[aG,aV]using h);obtain⟨x,xs,rfl,h1,C⟩:=D;have E:bw P w ad β (.box false t::r) (.ptr 0 []::args) (x::xs):=by
  refine⟨x,xs,rfl,?_,bw.mono (fun _ x=>x) (fun _ _=>rfl) tt _ _ y.2 C⟩;obtain⟨q1,an,off,o,s,N,q4⟩:=h1;refine⟨q1,an,off,0,s,rfl,fun _=>?_⟩;have I:o=0:=by simpa[gA,q]using N.symm
  have:=q4 (.inl ⟨false,_,rfl⟩);rw[I]at this;exact this
 refine(h.2 w ad ah β (x::xs) K E ⟨⟨_,rfl,trivial⟩,aV.mono (fun _ h=>ri h) _ y.2⟩).mono ?_;rintro e w' ⟨B,aM,aH,rfl,g,M,z⟩;refine⟨B,aM,aH,rfl,⟨g.bS,g.fresh,g.ext,?_,?_,fun x hx=>ri (g.fS x (ri hx)),?_⟩,aD.mono (fun _ x=>x) (fun _ _=>rfl) tt _ _ z M,aG.mono (fun _ h=>ri h) _ z⟩
 ·have aN:=g.step;have m:=tt (β:=β) (t:=.st u [t]) (t':=t) (r:=r);have p:=tt (β:=aM) (t:=i) (t':=.st u [i]) (r:=j);have d:∀x,aI (.box false (.st u [t])::r) x->aI (.box false t::r) x:=fun x h=>ri h;have l:∀x,aI (.box false t::r) x->aI (.box false i::j) x:=g.fS;refine⟨fun b a c=>?_,fun b a c=>?_,fun b a c=>?_,fun b aC ai k es a c=>?_,fun b a c=>?_⟩
  ·obtain⟨k1,k2⟩:=p.box b (l _ (d _ a)) c;obtain⟨k3,k4⟩:=aN.box b (d _ a) k1;exact⟨(m.box b a k3).1,k4⟩
  ·obtain⟨k1,k2⟩:=p.it b (l _ (d _ a)) c;obtain⟨k3,k4⟩:=aN.it b (d _ a) k1;exact⟨(m.it b a k3).1,k4⟩
  ·obtain⟨k1,k2⟩:=p.map b (l _ (d _ a)) c;obtain⟨k3,k4⟩:=aN.map b (d _ a) k1;exact⟨(m.map b a k3).1,k4⟩
  ·have k1:fh (.box false i::j) b aC ai k es:=by
    cases b with
    |zero=>simp[fh]at c
    |succ b=>exact c
   obtain⟨k0,gS,q1,s⟩:=aN.arr b aC ai k es (d _ a) k1;refine⟨k0,gS,?_,s⟩;cases b with
   |zero=>simp[fh]at q1
   |succ b=>exact q1
  ·obtain⟨k1,k2⟩:=p.loop b (l _ (d _ a)) c;obtain⟨k3,k4⟩:=aN.loop b (d _ a) k1;exact⟨(m.loop b a k3).1,k4⟩
 ·exact g.rel.swap (fun cs h=>(Mq q).2 ⟨h,G _ _ _ _ _ h⟩) a (fun n h=>by simpa[aG,aV]using h)
 ·rintro b ⟨L,c⟩;have k1:ib (.box false t::r) b:=by
   cases b with
   |zero=>simp at c
   |succ b=>exact⟨L,c⟩
  obtain⟨A,k2⟩:=g.loop b k1;cases b with
  |zero=>simp at k2
  |succ b=>exact⟨A,k2⟩
end
section
variable{P:a4}{w:a7}{ad ah:Nat->Prop}{β:Bd}
def uj(n:Nat):aj:=bI n .dead
theorem nO{n b:Nat}{o:Obj}(h:(uj n)[b]?=some o):o=.dead:=by
 simp only[uj,cx]at h
 split at h
 ·injection h with h;exact h.symm
 ·cases h
theorem cC.cut{f:a3}{H:aj}{args:List AV}{n:Nat}{p:PV}(h:cC P f H args (uj n) (.p p)):cC P f H args (uj H.length) (.p p):=by
 refine⟨h.1,fun w ad ah β i v r y=>(h.2 w ad ah β i v r y).mono ?_⟩;rintro e w' ⟨j,aM,aH,rfl,a,z,A⟩;have no:∀{m b:Nat}{o:Obj},(uj m)[b]?=some o->o.live->False:=fun h d=>by rw[nO h]at d;exact d
 refine⟨j,aM,aH,rfl,⟨a.bS,a.fresh,a.ext,⟨?_,?_,?_,?_,?_⟩,⟨fun b o c=>by rw[nO c];trivial,fun b b' o o' c _ d=>(no c d).elim,fun b o c=>by rw[nO c];trivial,a.rel.bS,a.rel.eM,a.rel.jg⟩,?_,?_⟩,z,trivial⟩
 ·rintro b _ ⟨fz,t,h⟩;cases nO h
 ·rintro b _ ⟨fz,t,h⟩;cases nO h
 ·rintro b _ ⟨B,h,g⟩;rw[nO h]at g;exact g.elim
 ·intro b aC ai k es _ h;cases nO h
 ·rintro b _ ⟨L,h⟩;cases nO h
 ·rintro x ⟨o,l,_⟩;have u:=(bo.1 l).1;exact⟨.dead,by rw[uj,cx,if_pos u],trivial⟩
 ·intro b s;obtain⟨L,q⟩:=a.loop b s;cases nO q
theorem cC.c8{f:a3}{H H':aj}{args:List AV}{v v':PV}(h:cC P f H args H' (.p v))(k:Wk v v'):cC P f H args H' (.p v'):=by
 refine⟨h.1,fun w ad ah β a i d j=>(h.2 w ad ah β a i d j).mono ?_⟩;rintro e w' ⟨b,aM,aH,rfl,g,c,l⟩;exact⟨b,aM,aH,rfl,g,aF.c8 _ _ _ k c,trivial⟩
end
section
variable{P:a4}
def Ao(P:a4)(a:List a5)(N:Nat)(Q:AV->aj->Prop)(e:Tg (a,N,Q) bA)(s:Tg (a,N,Q) St):Prop:=
 (match e with
  | .exit _=>False
  |_=>True)/\∃vs,fL P s a=some vs/\∃H',Q (oneOf vs) H'/\(H'=St.heap s\/(cR N s ⟨[],H'⟩/\aG (aI H') (oneOf vs)))
theorem Xc{a:List a5}{N:Nat}{Q:AV->aj->Prop}{s:St}:Ao P a N Q .ret s=∃vs,fL P s a=some vs/\∃H',Q (oneOf vs) H'/\(H'=s.heap\/(cR N s ⟨[],H'⟩/\aG (aI H') (oneOf vs))):=by simp[Ao]
theorem UY{a:List a5}{N:Nat}{Q:AV->aj->Prop}{s:St}:Ao P a N Q .normal s=∃vs,fL P s a=some vs/\∃H',Q (oneOf vs) H'/\(H'=s.heap\/(cR N s ⟨[],H'⟩/\aG (aI H') (oneOf vs))):=by simp[Ao]
attribute [simp] Xc UY
end
section
variable{P:a4}
theorem aB.heap{f:a3}{vs j:List PV}{v:PV}{H H1:aj}{args:List AV}(h:aB P f vs v)(g:Enters P f)(o:nD H args=some (j,H1))(l:bD j vs:=by first|exact bD.refl _|simp):cC P f H args H1 (.p v):=by
 refine⟨g,fun w ad ah β x u r q=>?_⟩;obtain⟨b,a,i⟩:=Ct o u r q;rcases h.c8 l (Wk.refl _)with m|n
 ·intro cs;obtain⟨e,w',k,⟨c,aH,he,m1,m2,m3,m4,m5,m6,m7⟩,aN,s,t⟩:=m.2 w b _ a.rel.bS a.rel.jg i cs;subst he;exact⟨_,w',k,⟨c,β,aH,rfl,a.trans (a.rel.later m1 m2 m3 m4 m5 m6),by simpa[aD]using m7,by simp[aG]⟩,aN,s,t⟩
 ·obtain⟨c,d,_⟩:=n w b _ i;rw[g]at d;cases d
theorem GQ{w:a7}{ad ah:Nat->Prop}{β:Bd}{H:aj}{n:Nat}(e:b7 P w ad β H ah):∀{args:List AV}{vs:List PV}{c:List a6},jh (eB H n) args=some vs->aV (aI H) args->bw P w ad β H args c->br P w (Ac ad β H) vs c
 |[],vs,c,h,_,b=>by
  simp[jh]at h;subst h;simp only[bw]at b;simpa[br]using b
 |a::args,vs,c,h,d,b=>by
  simp only[jh]at h
  split at h
  case h_2=>simp at h
  rename_i y j f g;simp at h;subst h;simp only[bw]at b;obtain⟨z,i,rfl,k1,k2⟩:=b;simp only[aV]at d;simp only[br];exact⟨z,i,rfl,yo e n a y f d.1 z k1,GQ e g d.2 k2⟩
end
section
variable{P:a4}{ag:a3->Bool}
theorem Bn(H:aj):(fJ H).map (·.1)=bv H.length:=by
 rw[fJ,dg];simp
theorem Sr{H a:aj}(f:a.length=H.length):bc H (fJ a)=a:=by
 have d:((fJ a).map (·.1)).Nodup:=by rw[Bn];exact b4
 refine db fun i=>?_
 by_cases hi:i<a.length
 ·have c:(i,a[i])∈fJ a:=by
   rw[fJ,bp];exact⟨i,by simp;exact hi,by rw[ce];simp⟩
  rw[tX d _ c (by simp only;omega),bl hi]
 ·have b:(bc H (fJ a))[i]?=H[i]?:=rr fun p e=>by
   have:p.1∈(fJ a).map (·.1):=c9 e
   rw[Bn,List.mem_range]at this;omega
  rw[b,cy o_,cy o_]
end
section
variable{P:a4}{ag:a3->Bool}
theorem fx.axk{b:Nat}{H a:aj}{args:List AV}{v:AV}(h:fx P b H args a v)(g:H.length<=a.length)(d:aV (aI H) args)(j:dE H H):
 oI P b args H.length {v:=v,al:=fJ H,aK:=fJ (a.take H.length),aX:=a.drop H.length}:=by
 have hf:=h.frame (bv H.length) H.length s_ b4 (fun b f=>by simpa using f) g d j.get;rw[Ai]at hf;have e:dy (bv H.length) H.length H a v={v:=v,al:=fJ H,aK:=fJ (a.take H.length),aX:=a.drop H.length}:=by
  have c:(a.take H.length).length=H.length:=by rw[cc];omega
  simp only[dy,Ai,wF];rw[show(cW fun i=>i)=id from funext PK,b2,b2,b2,fJ,fJ,c]
 rw[e,pE]at hf;exact hf
open Classical in
noncomputable def sx(H H2:aj):List (Nat×Obj):=(fJ (H2.take H.length)).filter fun p=>decide (H[p.1]?≠some p.2)
open Classical in
theorem xA{H H2:aj}{p:Nat×Obj}:p∈sx H H2↔p∈fJ (H2.take H.length)/\H[p.1]?≠some p.2:=by
 simp[sx,List.mem_filter]
theorem FE{H:aj}{i:Nat}{o:Obj}(h:H[i]?=some o):(i,o)∈fJ H:=by
 have hi:=(bo.1 h).1;rw[fJ,bp];refine⟨i,by simp;exact hi,?_⟩;rw[ce,List.getElem_range];rw[bl hi]at h;injection h with h
 rw[h]
theorem Fs(H:aj):((fJ H).map (·.1)).Nodup:=by rw[Bn];exact b4
theorem Sp(H a:aj):((sx H a).map (·.1)).Nodup:=by
 refine List.Nodup.sublist ?_ (Fs (a.take H.length));exact List.Sublist.map _ List.filter_sublist
theorem Fu{H a c:aj}(n:H.length<=a.length)(h:∀i,i<H.length->c[i]?=H[i]?):bc c (sx H a)=bc c (fJ (a.take H.length)):=by
 refine db fun i=>?_;have m:(a.take H.length).length=H.length:=by rw[cc];omega
 by_cases hi:i<H.length
 ·have j:i<c.length:=by
   have:=h i hi;rw[bl hi]at this;exact(bo.1 this).1
  have f:(a.take H.length)[i]?=some a[i]:=by rw[b5,if_pos hi,bl o_]
  have k:=FE f;rw[tX (Fs _) _ k j]
  by_cases hc:H[i]?=some a[i]
  ·rw[rr (fun p b=>?_),h i hi,hc];rw[xA]at b;intro e;have d:=uo b.1;rw[e,f]at d;injection d with d
   have g:=b.2;rw[e,<-d]at g;exact g hc
  ·have l:(i,a[i])∈sx H a:=by
    rw[xA];exact⟨k,hc⟩
   rw[tX (Sp _ _) _ l j]
 ·rw[rr (fun p b=>?_),rr (fun p b=>?_)]
  ·have:=(bo.1 (uo b)).1;omega
  ·rw[xA]at b;have:=(bo.1 (uo b.1)).1;omega
theorem fx.aw0{b:Nat}{H a:aj}{args:List AV}{v:AV}(h:fx P b H args a v)(f:H.length<=a.length)(n:aV (aI H) args)(q:dE H H):
 oI P b args H.length {v:=v,al:=fJ H,aK:=sx H a,aX:=a.drop H.length}:=by
 have o:=h.axk f n q;intro c w ad ah β g j k l d m;have p:∀i,i<H.length->c[i]?=H[i]?:=fun i hi=>by
  rw[bl hi];exact d _ (FE (bl hi))
 have e:bc c (sx H a++newAt H.length (a.drop H.length))=bc c (fJ (a.take H.length)++newAt H.length (a.drop H.length)):=by
  rw[vg,vg,Fu f p]
 have:=o c w ad ah β g j k l d m;dsimp only at this⊢;rw[e];exact this
theorem yg{b:Nat}{H a:aj}{args:List PV}{as:List AV}{v:PV}{K:aY->Prop}(h:fx P b H (args.map .p) a (.p v))(has:as=args.map .p)(k:H.length<=a.length)(o:dE H H)(n:∀i,i<H.length->a[i]?=some .hole->H[i]?=some .hole)
 (hk:∀e:aY,(∀dst env,aY.app e dst ⟨env,H⟩=⟨put dst (.p v) env,a⟩)->K e):wV P H K (.map b) as:=by
 subst has;have m:aV (aI H) (args.map AV.p):=iS _ _;show∃e,oI P b (args.map .p) H.length e/\oM H e/\K e;have g:(a.take H.length).length=H.length:=by rw[cc];omega
 refine⟨_,h.aw0 k m o,⟨fun p c=>uo c,fun p c=>?_⟩,hk _ fun dst env=>?_⟩
 ·rw[xA]at c;have f:=uo c.1;have d:=(bo.1 f).1;rw[g]at d;refine⟨d,fun e=>?_⟩;rw[b5,if_pos d,e]at f;have l:=n _ d f;have j:=c.2;rw[e]at j;exact j l
 ·simp only[aY.app];rw[Fu k (fun _ _=>rfl),Sr g,List.take_append_drop]
def F6(P:a4)(g:a3)(fi ca:List PV)(h:List (List PV))(d:Nat->aj):Prop:=
 ∀(b k:Nat)(c f:Nat->aj)(H':aj),k<=h.length->(∀i,i<=k->dE (c i) (c i)/\aG (aI (c i)) (.map b))->
  (∀i a,i<k->h[i]?=some a->fx P b (c i++d i) (a.map .p) (f i) (.p (.bool true))/\(c i++d i).length<=(f i).length/\(∀j,j<(c i++d i).length->(f i)[j]?=some .hole->(c i++d i)[j]?=some .hole)/\
   (c (i+1)).take (c 0).length=(f i).take (c 0).length/\ij (c (i+1)) (f i) (c (i+1)))->
  (k=h.length/\H'=c k\/∃a e,h[k]?=some a/\fx P b (c k++d k) (a.map .p) e (.p (.bool false))/\(c k++d k).length<=e.length/\(∀j,j<(c k++d k).length->e[j]?=some .hole->(c k++d k)[j]?=some .hole)/\
   H'.take (c 0).length=e.take (c 0).length/\ij H' e H'/\dE H' H')->
  cC P g (c 0) (fi.map .p++[.map b]++ca.map .p) H' (.p (.aE []))
theorem RA{f:ay}{n:Array Tmp}{a c:Code}{Q:bA->St->Prop}{env:Env}{heap:aj}{q:Cx}{g:a3}{fi ca:List PV}{r:List (List PV)}{h:Nat->aj}(aN:F6 P g fi ca r h)(hf:ev env f= .p (.func g fi ca))(hq:q.2<=heap.length)
 (X Y:dK->Nat->aj)(k:Nat)(hk:k<=r.length)(u:∀L,X L 0=heap++[.loop L])
 (hx:∀L,L=⟨.ready,none,q.1,n.toList,a,c,env⟩->∀i,i<=k->(X L i)[heap.length]?=some (.loop L)/\iu (X L i) env/\(iu (X L i) env->(∀x,aG (aI (X L i)) (aP L.env x))->dE (X L i) (X L i)))
 (w:∀L,L=⟨.ready,none,q.1,n.toList,a,c,env⟩->∀i x,i<k->r[i]?=some x->fx P heap.length (X L i++h i) (x.map .p) (Y L i) (.p (.bool true))/\(X L i++h i).length<=(Y L i).length/\(∀j,j<(X L i++h i).length->(Y L i)[j]?=some .hole->(X L i++h i)[j]?=some .hole)/\
  (X L (i+1)).take (heap.length+1)=(Y L i).take (heap.length+1)/\ij (X L (i+1)) (Y L i) (X L (i+1)))
 (G:∀L,L=⟨.ready,none,q.1,n.toList,a,c,env⟩->(k=r.length/\Q .normal ⟨env,(X L k).set heap.length (.loop L.xh)⟩)\/
  ∃x j l b,r[k]?=some x/\b[heap.length]?=some (.loop (L.dn j))/\fx P heap.length (X L k++h k) (x.map .p) l (.p (.bool false))/\(X L k++h k).length<=l.length/\(∀i,i<(X L k++h k).length->l[i]?=some .hole->(X L k++h k)[i]?=some .hole)/\
  b.take (heap.length+1)=l.take (heap.length+1)/\ij b l b/\dE b b/\je Q (some j) ⟨env,b.set heap.length (.loop (L.dn j).xh)⟩):
 eP P ag q (.rangeFunc f n a c) Q ⟨env,heap⟩:=by
 obtain⟨L,d⟩:∃L:dK,L=⟨.ready,none,q.1,n.toList,a,c,env⟩:=⟨_,rfl⟩
 have t:=aN heap.length k (X L) (Y L);refine⟨hq,?_⟩;show jq P (ev env f) heap.length (heap++[.loop ⟨.ready,none,q.1,n.toList,a,c,env⟩]) (iE heap.length env Q);rw[hf];simp only[jq];rw[<-d,<-u L];have y:(X L 0).length=heap.length+1:=by rw[u L];simp
 have v:∀i,i<=k->dE (X L i) (X L i)/\aG (aI (X L i)) (.map heap.length):=by
  intro i hi;obtain⟨o,m,s⟩:=hx L d i hi;have e5:L.env=env:=by rw[d]
  refine⟨s m (by rw[e5];exact m.get),?_⟩;simp only[aG,aI,o];exact⟨_,rfl,by simp[Obj.has]⟩
 rw[y]at t;rcases G L d with⟨o,m⟩|⟨x,j,l,b,o,m,s,z,A,B,C,D,E⟩
 ·refine⟨_,_,t (X L k) hk v (w L d) (.inl ⟨o,rfl⟩),?_⟩;have F:=(hx L d k (ee k)).1;simp only[iE,F];refine⟨by rw[d];simp,?_⟩;have:L.pending=none:=by rw[d]
  simp only[this,je];have e:L.xh={L with st:=.exhausted}:=rfl;rw[this]at e;rw[e]at m;exact m
 ·refine⟨_,_,t b hk v (w L d) (.inr ⟨x,l,o,s,z,A,B,C,D⟩),?_⟩;simp only[iE,m];exact⟨by simp[dK.dn],E⟩
theorem R8{H J:aj}{x:Nat×Nat}(h:aI H x):aI (H++J) x:=by
 obtain⟨o,a,b⟩:=h;exact⟨o,by rw[List.getElem?_append_left (bo.1 a).1];exact a,b⟩
theorem dE.up{S T:aj}(a:∀x,aI S x->aI T x):∀{h:aj},dE S h->dE T h
 |[],_=>trivial
 |_::_,h=>⟨Obj.yF a h.1,dE.up a h.2⟩
theorem dE.app{H J:aj}(h:dE H H)(a:dE (H++J) J):dE (H++J) (H++J):=by
 rw[Da];exact⟨h.up fun _=>R8,a⟩
theorem aID{a:Array Oper}{b:List Touch}{i n:Nat}{e:aY}(h:iJ a b=true)(c:b.all (fun u=>reach a a.size u.i i)=true):iJ a (gl i n e b)=true:=by
 rw[gl]
 split
 ·exact h
 ·rw[iJ,h,Bool.and_true,dl];intro u d;rw[dl]at c;rw[show(ia i n e).i=i from rfl,c u d,Bool.or_true]
theorem yk{b:Nat}{H c:aj}{args:List PV}{as:List AV}{v:PV}{a:Array Oper}{r:List Oper}{i:Nat}{d:List Touch}{K:St->Prop}{dst:Option Tmp}{env:Env}(h:fx P b H (args.map .p) c (.p v))(has:as=args.map .p)(l:H.length<=c.length)(hr:dE H H)(hh:∀i,i<H.length->c[i]?=some .hole->H[i]?=some .hole)
 (g:iJ a d=true)(j:d.all (fun u=>reach a a.size u.i i)=true)(hk:∀f,wG a f=true->oN P ag a r (i+1) f K ⟨put dst (.p v) env,c⟩):wV P H (zY P ag a r i d K dst ⟨env,H⟩) (.map b) as:=by
 refine yg h has l hr hh fun e k=>?_;show oN P ag a r (i+1) (gl i H.length e d) K (aY.app e dst ⟨env,H⟩);rw[k];exact hk _ (aID g j)
end
def uz:Obj->Obj
 | .arr _ aC z es=>.arr .frozen aC z es
 |o=>o
def qD(H:aj):Prop:=∀(b:Nat)(o:Obj),H[b]?=some o->∃(k:AK)(aC z:Nat)(a:List PV),o=.arr k aC z (a.map AV.p)/\¬(k.gr=true/\a.map AV.p=[])
section
variable{P:a4}
theorem Hq{w:a7}{ad ah:Nat->Prop}{β:Bd}{H:aj}(m:qD H)(s:b7 P w ad β H ah):∀k,k<=H.length->
 ∃aH,bZ P ah ad w β H aH w β ((H.take k).map uz++H.drop k)/\∀b,b<k->aH (β.an b)
 |0,_=>⟨ad,by simpa using bZ.refl s,fun b i=>by omega⟩
 |k+1,hk=>by
  obtain⟨A,f,hi⟩:=Hq m s k o_;obtain⟨o,c⟩:∃o,H[k]?=some o:=⟨_,bl o_⟩
  obtain⟨y,aC,z,g,rfl,j⟩:=m k o c;have q:((H.take k).map uz).length=k:=by simp;omega
  have d:((H.take k).map uz++H.drop k)[k]?=some (.arr y aC z (g.map AV.p)):=by
   rw[List.getElem?_append_right o_,q,em,List.getElem?_drop,Nat.add_zero,c]
  have aK:((H.take k).map uz++H.drop k).set k (.arr .frozen aC z (g.map AV.p))=(H.take (k+1)).map uz++H.drop (k+1):=by
   rw[List.set_append_right _ _ o_,q,em,List.take_add_one,c,dz,List.append_assoc];congr 1;obtain⟨v,x⟩:=bo.1 c;rw[List.drop_eq_getElem_cons v,x];rfl
  have r:¬dc .frozen (g.map AV.p):=fun h=>by cases h.1
  have aN:=qM (β:=β) d (.inr (.inl ⟨_,_,_,_,_,rfl,rfl,j,r⟩));rcases f.rel.cK k _ d with hold|⟨cs,T,t,rest,g1,g2,g3,g4,g5,g6,g7,g8⟩
  ·exact(j hold).elim
  obtain⟨aH,l,u⟩:=qR f.rel d j (o':=.arr .frozen aC z (g.map AV.p)) r (fun _ h=>h) (fun _ h=>by cases h) aN g7.rN
   (fun aH hi i=>.inr ⟨cs,T,t,rest,g1,bM.mono hi (fun _ _=>rfl) aN _ _ _ (f.rel.refs k _ d) g2,g3,g4,g5,(fun h=>by cases h),i,fun _ e n=>(by simp at n;obtain⟨a,_,rfl⟩:=n;trivial),fun h=>by cases h⟩)
   (iS _ _)
  rw[aK]at l;refine⟨aH,f.trans l,fun b i=>?_⟩
  by_cases e:b=k
  ·subst e;exact u
  ·exact l.bS _ (hi b o_)
theorem aB.Rc{f:a3}{vs:List PV}{v:PV}{H:aj}{args:List AV}(n:Nat)(h:aB P f vs v)(g:Enters P f)(r:qD H)(u:lD H n args vs):cC P f H args (H.map uz) (.p v):=by
 obtain⟨D,q,c⟩:=ru n (fun x v h=>pV n x v h) args vs u;refine⟨g,fun w ad ah β l i z y=>?_⟩;obtain⟨aH,a,B⟩:=Hq r i H.length (ee _);rw[List.take_length,List.drop_length,List.append_nil]at a;have j:br P w aH D l:=br.mono (by
  rintro x (hk|⟨b,o,q1,E,rfl⟩)
  ·exact a.bS _ hk
  ·exact B b (bo.1 q1).1) (fun _ _=>rfl) _ _ (GQ i q y z)
 rcases h.c8 c (Wk.refl _)with s|t
 ·intro cs;obtain⟨e,w',m,⟨d,k,he,m1,m2,m3,m4,m5,m6,m7⟩,aN,A,C⟩:=s.2 w _ _ a.rel.bS a.rel.jg j cs;subst he;exact⟨_,w',m,⟨d,β,k,rfl,a.trans (a.rel.later m1 m2 m3 m4 m5 m6),by simpa[aD]using m7,by simp[aG]⟩,aN,A,C⟩
 ·obtain⟨d,c,_⟩:=t w _ _ j;rw[g]at c;cases c
end
end Go.aq
