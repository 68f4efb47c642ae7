import Derived.Test.YtdjojlnnobkliaaGreatDoorSPF
import Derived.Test.YtdjojlnnobkliaaGreatDoorSThC
/- Parts of a proof. -/
set_option maxRecDepth 100000
set_option maxHeartbeats 4000000
set_option linter.unusedSimpArgs false
set_option linter.unusedVariables false
set_option linter.unusedSectionVars false
open Go.Proofs.Tryz
open And renaming intro->am
open Bool renaming and_eq_true->ao, true_or->ap, false_or->av, cond_eq_ite->ax, or_true->ay, not_eq_true'->aT, or_eq_true->a6, eq_iff_iff->a7, true_and->a8
open Decidable renaming not_not->bb
open Go renaming FuncId->be, DataW->bi, Field->bl
open Go.IntKind renaming i64->bo
open Go.Utf8 renaming decode->bp
open Int renaming tmod_eq_emod_of_nonneg->bv, natCast_emod->bI, natCast_nonneg->bV, natCast_mul->bW, lt_or_le->b2
open List renaming mem_of_getElem?->b3, drop_eq_getElem_cons->b4, take_length->b5, mem_iff_getElem->cb, take_of_length_le->cc, getElem?_eq_getElem->ce, any_eq_true->ck, range->cv, map_cons->cx, length_eq_zero_iff->cy, findIdx?_eq_some_iff_getElem->c6, take_add_one->c9, length_take->da, zip_cons_cons->db, zip_nil_left->dg, mem_range->dk, mem_cons_of_mem->dl, getD_eq_getElem?_getD->dp, mem_map->dq, findIdx?_eq_none_iff->dz, mem_cons_self->ea, getElem?_take->eb, map_nil->ec, range_succ->ed, mem_of_find?_eq_some->ee, length_range->ei, getElem_take->ej, getElem?_map->en, all_eq_true->eo, getElem?_range->eq, map_take->ew, find?_eq_none->e6, getElem_mem->e7, map_append->e8, length_map->e9, take_append_drop->fb, length_filter_le->fd, getElem?_eq_none->fl, filter_append->fm, any_eq_false->fp, mem_filter->fv, find?_cons->gb, append_nil->gc, mem_cons->ge
open Nat renaming eq_of_beq_eq_true->gg, lt_of_lt_of_le->gi, lt_trichotomy->gj, mul_le_mul->gm, lt_trans->gt, beq->gw
namespace Go.aq
open Go.aq renaming c1->c1_, c2->c2_, c3->c3_, c4->c4_, e1->e1_, e2->e2_, e3->e3_, e4->e4_
open Go.Proofs
def lT(p:dS):V2:=⟨(p.x:Rat),(p.y:Rat)⟩
theorem jX{p:dS}(h:dV p):bJ 14 (lT p):=by
 simp only[dV]at h;exact⟨nu o_ (by decide),nu o_ (by decide)⟩
theorem Fy(p:dS)(h:dV p):aB prog 174 [cH p] (eV (lT p)):=by
 have c:=h;simp only[dV]at h;have a:=DL p.x o_ o_;have b:=DL p.y o_ o_;refine aJ nf (i_ func174) mix (by simp[f174]) ?_;rw[lT,Qr];simp[f174,aa];refine e1 a ?_;simp[aa];refine e1 b ?_;simp[aa]
def ar.uO(t:ar)(i:Nat):V2:=(lT (t.at (t.nx i))).sub (lT (t.at i))
def ar.side(t:ar)(i:Nat)(v:V2):Int:=eU ((t.uO i).dx (v.sub (lT (t.at i))))
theorem ar.okW{t:ar}(h:∀p∈t.cs,dV p){i:Nat}(hi:i<t.cs.length):bJ 29 (t.uO i):=kg (jX (ar.fE h (t.lY o_ i))) (jX (ar.fE h hi))
theorem ZE(t:ar)(i:Nat)(v:V2)(e:t.cs.length<=1000000)(b:∀p∈t.cs,dV p)(hi:i<t.cs.length)(d:bJ 3000 v):aB prog 272 [df t,.int .i64 i,eV v] (.int .i64 (t.side i v)):=by
 have a:=ar.get hi;have c:=jX (ar.fE b hi);have n:=jX (ar.fE b (t.lY o_ i));have f:=Fy (t.at i) (ar.fE b hi);have g:=F5 t i hi e;have h:=Fy (t.at (t.nx i)) (ar.fE b (t.lY o_ i));have j:=Ek (lT (t.at (t.nx i))) (lT (t.at i)) (n.mono (by decide)) (c.mono (by decide));have k:=Ek v (lT (t.at i)) (d.mono (by decide)) (c.mono (by decide));have l:=Sj (t.uO i) (v.sub (lT (t.at i))) ((ar.okW b hi).mono (by decide)) ((kg d c).mono (by decide));have m:=zl ((t.uO i).dx (v.sub (lT (t.at i)))) ((Fk (ar.okW b hi) (kg d c)).mono (by decide));refine aJ nf (i_ func272) mix (by simp[f272]) ?_;rw[ar.side];simp[f272,aa,a,hi];refine e1 f ?_;simp[aa,a,hi];refine e2 g ?_;simp[aa,a,hi];refine e1 h ?_;simp[aa,a,hi];refine⟨by repeat' first|rfl|apply am,?_⟩;refine e2 j ?_;simp[aa,a,hi];refine e2 k ?_;simp[aa,a,hi];refine e2 l ?_;simp[aa,a,hi];refine e1 m ?_;simp[aa,a,hi]
def ar.kr(t:ar)(v:V2)(m:Nat):Int:=(cv m).foldl (fun o i=>min o (t.side i v)) 1
theorem ar.xw(t:ar)(v:V2)(m:Nat):t.kr v (m+1)=min (t.kr v m) (t.side m v):=by
 rw[ar.kr,ed,List.foldl_append];rfl
def ar.on(t:ar)(v:V2):Int:=t.kr v t.cs.length
theorem FV(a b:Int):min a b=if b<a then b else a:=by split<;>omega
theorem P1(t:ar)(v:V2)(b:t.cs.length<=1000000)(c:∀p∈t.cs,dV p)(d:bJ 3000 v):aB prog 213 [df t,eV v] (.int .i64 (t.on v)):=by
 refine aJ nf (i_ func213) mix (by simp[f213]) ?_;simp[f213,aa];refine lp (α:=Nat) (fun i=>⟨[(6,.p (.int .i64 i)),(5,.p (.int .i64 (t.kr v i))),(3,.ptr 1 []),(2,.ptr 0 [])],[.box false (.p (df t)),.box false (.p (eV v))]⟩) (fun i=>i<=t.cs.length) (fun i=>t.cs.length-i) 0 s_ ?_ (hh:=by simp[ar.kr]) (he:=by simp[ar.kr]);rintro i f
 by_cases hi:i<t.cs.length
 ·have a:=ZE t i v b c hi d;have e:=b6 (i:=i) o_;have hs:=ar.xw t v i;rw[FV]at hs;simp[hi,aa];refine c3 a ?_;simp[e,<-hs];exact rd (i+1) hi
 ·have:i=t.cs.length:=by omega
  subst this;simp[ar.on,aa]
def isLet(c:Int):Bool:=(decide (97<=c)&&decide (c<=122))||(decide (65<=c)&&decide (c<=90))
def jm(c:Int):Bool:=decide (48<=c)&&decide (c<=57)
def mG:Nat->List Nat->Bool
 |_,[]=>true
 |i,c::r=>(isLet c||(decide (i≠0)&&(jm c||decide ((c:Int)=95))))&&mG (i+1) r
def isName(s:List Nat):Bool:=decide (1<=s.length)&&decide (s.length<=24)&&mG 0 s
theorem cls(c:Int):(97<=c/\c<=122)\/(¬97<=c/\65<=c/\c<=90)\/(¬97<=c/\¬65<=c/\¬48<=c/\¬c=95)\/(¬97<=c/\¬65<=c/\48<=c/\c<=57/\¬c=95)\/(¬97<=c/\¬65<=c/\48<=c/\¬c<=57/\¬c=95)\/
 (¬97<=c/\65<=c/\¬c<=90/\48<=c/\¬c<=57/\c=95)\/(¬97<=c/\65<=c/\¬c<=90/\48<=c/\¬c<=57/\¬c=95)\/(97<=c/\¬c<=122/\65<=c/\¬c<=90/\48<=c/\¬c<=57/\¬c=95):=o_
theorem Fw(c:Int):aB prog 262 [.int .i32 c] (.bool (isLet c)):=by
 refine aJ nf (i_ func262) mix (by simp[f262]) ?_;rcases cls c with⟨a,b⟩|⟨a,b,d⟩|⟨a,b,d,e⟩|⟨a,b,d,e,f⟩|⟨a,b,d,e,f⟩|⟨a,b,d,e,f,g⟩|⟨a,b,d,e,f,g⟩|⟨a,b,d,e,f,g,h⟩<;>simp[f262,isLet, *]
theorem Fq{s:List Nat}{i:Nat}(hi:i<s.length):mG i (s.drop i)=((isLet s[i]||(decide (i≠0)&&(jm s[i]||decide ((s[i]:Int)=95))))&&mG (i+1) (s.drop (i+1))):=by
 rw[b4 hi,mG]
theorem Bg(s:List Nat)(h:s.length<=1048576):aB prog 211 [.str s] (.bool (isName s)):=by
 refine aJ nf (i_ func211) mix (by simp[f211]) ?_;rcases Bh s.length 1 with⟨g1,m⟩|⟨g1,m⟩
 ·have:s.length=0:=by omega
  simp[f211,g1,isName,this]
 rcases Bh 24 s.length with⟨g2,n⟩|⟨g2,n⟩
 ·have:¬s.length<=24:=by omega
  simp[f211,g1,g2,isName,this]
 simp[f211,g1,g2];have e0:isName s=mG 0 s:=by simp[isName];omega
 refine lp (α:=Nat) (fun i=>⟨[(3,.p (.int .i64 i)),(0,.p (.str s))],[]⟩) (fun i=>i<=s.length/\isName s=mG i (s.drop i)) (fun i=>s.length-i) 0 (by simp[e0]) ?_;rintro i ⟨k1,k2⟩
 by_cases hi:i<s.length
 ·rw[Fq hi]at k2;have k:=b6 (i:=i) o_;generalize hc:(s[i]:Int)=c at*
  by_cases j:i=0
  ·subst j;have l:bo.wrap 1=1:=aQ 1 o_ o_;rcases cls c with⟨a,b⟩|⟨a,b,d⟩|⟨a,b,d,e⟩|⟨a,b,d,e,f⟩|⟨a,b,d,e,f⟩|⟨a,b,d,e,f,g⟩|⟨a,b,d,e,f,g⟩|⟨a,b,d,e,f,g,h⟩
   ·simp[isLet,a,b]at k2;simp[hi,hc,a,b,l];exact rd 1 ⟨hi,by simpa using k2⟩
   ·simp[isLet,a,b,d]at k2;simp[hi,hc,a,b,d,l];exact rd 1 ⟨hi,by simpa using k2⟩
   all_goals
    simp[isLet, *]at k2;simp[hi,hc, *]
  ·rcases cls c with⟨a,b⟩|⟨a,b,d⟩|⟨a,b,d,e⟩|⟨a,b,d,e,f⟩|⟨a,b,d,e,f⟩|⟨a,b,d,e,f,g⟩|⟨a,b,d,e,f,g⟩|⟨a,b,d,e,f,g,h⟩
   ·simp[isLet,a,b]at k2;simp[hi,hc,a,b,k];exact rd (i+1) ⟨hi,k2⟩
   ·simp[isLet,a,b,d]at k2;simp[hi,hc,a,b,d,k];exact rd (i+1) ⟨hi,k2⟩
   ·simp[isLet,jm,a,b,d,e]at k2;simp[hi,hc,j,a,b,d,e,k2]
   ·simp[isLet,jm,a,b,d,e,j]at k2;simp[hi,hc,j,a,b,d,e,k];exact rd (i+1) ⟨hi,k2⟩
   ·simp[isLet,jm,a,b,d,e,f]at k2;simp[hi,hc,j,a,b,d,e,f,k2]
   ·subst g;simp[isLet,jm,j]at k2;simp[hi,hc,j,k];exact rd (i+1) ⟨hi,k2⟩
   ·simp[isLet,jm,a,b,d,e,f,g]at k2;simp[hi,hc,j,a,b,d,e,f,g,k2]
   ·simp[isLet,jm,a,b,d,e,f,g,h]at k2;simp[hi,hc,j,a,b,d,e,f,g,h,k2]
 ·have:i=s.length:=by omega
  subst this;simp[mG]at k2;simp[k2]
theorem Fo(s:List Nat):(gJ s).size=s.length:=by
 show(s.map UInt8.ofNat).toArray.size=_;simp
theorem FJ(s:List Nat)(b:∀c∈s,c<256)(i:Nat)(h:i<s.length)(a:i<(gJ s).size):((gJ s)[i]'a).toNat=s[i]:=by
 have e:(gJ s)[i]'a=UInt8.ofNat s[i]:=by
  have:(gJ s)[i]'a=(s.map UInt8.ofNat).toArray[i]'(by simpa using h):=rfl;rw[this];simp
 rw[e];have:=b s[i] (e7 h);simp;omega
theorem ato{s:List Nat}(d:∀c∈s,c<256){i:Nat}(h:i<s.length)(b:s[i]<128):bp (gJ s) i=(s[i],1):=by
 have a:i<(gJ s).size:=by rw[Fo];exact h
 have e:=FJ s d i h a;rw[decode_ascii (gJ s) i a (by rw[e];exact b),e]
theorem atl{s:List Nat}(b:∀c∈s,c<256){i:Nat}(h:i<s.length)(d:¬s[i]<128):128<=(bp (gJ s) i).1/\1<=(bp (gJ s) i).2:=by
 have a:i<(gJ s).size:=by rw[Fo];exact h
 have e:=FJ s b i h a;exact decode_high (gJ s) i a (by rw[e];omega)
theorem Bl(s:List Nat)(h:s.length<=1048576):aB prog 202 [.str s] (.bool (isName s)):=by
 refine SU fun m=>?_;have m:∀c∈s,c<256:=by simpa[mr,dW]using m
 refine aJ nf (i_ func202) mix (by simp[f202]) ?_;simp[f202];refine lp (α:=Nat) (fun i=>⟨[(6,.ptr 0 []),(0,.p (.str s))],[.dw s i]⟩) (fun i=>i<=s.length/\mG 0 s=mG i (s.drop i)) (fun i=>s.length-i) 0 s_ ?_;rintro i ⟨k1,k2⟩
 by_cases hi:i<s.length
 ·rw[Fq hi]at k2
  by_cases o:s[i]<128
  ·have n:=ato m hi o;simp[hi,n];refine c1 (Fw _) ?_;generalize hc:(s[i]:Int)=c at*
   by_cases j:i=0
   ·rcases cls c with⟨a,b⟩|⟨a,b,d⟩|⟨a,b,d,e⟩|⟨a,b,d,e,f⟩|⟨a,b,d,e,f⟩|⟨a,b,d,e,f,g⟩|⟨a,b,d,e,f,g⟩|⟨a,b,d,e,f,g,h⟩
    ·simp[isLet,a,b]at k2;simp[isLet,a,b];exact rd (i+1) ⟨hi,k2⟩
    ·simp[isLet,a,b,d]at k2;simp[isLet,a,b,d];exact rd (i+1) ⟨hi,k2⟩
    all_goals
     simp[isLet,isName, *]at k2;simp[isLet,isName, *]
   ·rcases cls c with⟨a,b⟩|⟨a,b,d⟩|⟨a,b,d,e⟩|⟨a,b,d,e,f⟩|⟨a,b,d,e,f⟩|⟨a,b,d,e,f,g⟩|⟨a,b,d,e,f,g⟩|⟨a,b,d,e,f,g,h⟩
    ·simp[isLet,a,b]at k2;simp[isLet,a,b];exact rd (i+1) ⟨hi,k2⟩
    ·simp[isLet,a,b,d]at k2;simp[isLet,a,b,d];exact rd (i+1) ⟨hi,k2⟩
    ·simp[isLet,jm,a,b,d,e]at k2;have k:c<48:=by omega
     simp[isLet,isName,a,b,e,j,k,k2]
    ·simp[isLet,jm,a,b,d,e,f,j]at k2;have k:¬c<48:=by omega
     have e2:¬57<c:=o_
     simp[isLet,a,b,k,e2,f,j];exact rd (i+1) ⟨hi,k2⟩
    ·simp[isLet,jm,a,b,d,e,f]at k2;have k:¬c<48:=by omega
     have e2:57<c:=o_
     simp[isLet,isName,a,b,k,e2,f,j,k2]
    ·subst g;simp[isLet,jm,j]at k2;simp[isLet,j];exact rd (i+1) ⟨hi,k2⟩
    ·simp[isLet,jm,a,b,d,e,f,g]at k2;have k:¬c<48:=by omega
     have e2:57<c:=o_
     simp[isLet,isName,a,b,d,k,e2,g,j,k2]
    ·simp[isLet,jm,a,b,d,e,f,g,h]at k2;have k:¬c<48:=by omega
     have e2:57<c:=o_
     simp[isLet,isName,a,b,d,e,k,e2,h,j,k2]
  ·obtain⟨n,_⟩:=atl m hi o;have z:isLet (s[i]:Int)=false:=by simp[isLet];omega
   have y:jm (s[i]:Int)=false:=by simp[jm];omega
   have x:¬(s[i]:Int)=95:=o_
   simp[z,y,x]at k2;rcases q:bp (gJ s) i with⟨c,d⟩
   rw[q]at n;have t:isLet (c:Int)=false:=by simp[isLet];omega
   have u:¬(c:Int)=95:=o_
   have v:¬(c:Int)<48:=o_
   have w:57<(c:Int):=o_
   simp[hi,q];refine c1 (Fw _) ?_
   by_cases j:i=0
   ·simp[t,j,isName,k2]
   ·simp[t,j,u,v,w,isName,k2]
 ·have:i=s.length:=by omega
  subst this;simp[mG]at k2;cases hs:s with
  |nil=>simp[isName]
  |cons a r=>
   rw[hs]at k2;rcases Bh 24 s.length with⟨g,l⟩|⟨g,l⟩
   ·rw[hs]at g l;have:¬(r.length+1)<=24:=by simp at g;omega
    simp at l;simp[isName,k2,this];omega
   ·rw[hs]at g l;have:(r.length+1)<=24:=by simp at l;omega
    simp at l;simp[isName,k2,this];omega
theorem gM{s:List Nat}(h:b9 s=0):bL 2000 (aS s):=by
 obtain⟨b,c⟩:=Gi h;have a:(10:Nat)^mD<=2^2000:=by decide+kernel
 exact⟨gi b a,gi c a⟩
theorem aJb:bE 1=[49]:=aJc (n:=1) (by decide)
def fA(q:Rat):Int:=if eU q<0\/0<dO q 1 then 3 else 0
def xB(s:List Nat):Int:=if b9 s=0 then fA (aS s)else b9 s
theorem FA(s:List Nat)(hs:ji s):aB prog 271 [.str s] (.int .i64 (xB s)):=by
 have d:=wJ s hs;refine aJ nf (i_ func271) mix (by simp[f271]) ?_;rw[xB]
 by_cases c:b9 s=0
 ·have o:=gM c;have f:=zl (aS s) (o.mono (by decide));have g:=uW (aS s) 1 (o.mono (by decide)) (by exact⟨by decide+kernel,by decide+kernel⟩);rw[(ka c).1]at f g;rw[aJb]at g;rw[if_pos c,fA];rw[c]at d;generalize eU (aS s)=x at*;generalize dO (aS s) 1=y at*
  by_cases a:x<0
  ·simp[f271,aa];refine c1 d ?_;simp[aa];refine c1 f ?_;simp[a,aa]
  ·by_cases b:0<y
   ·simp[f271,aa];refine c1 d ?_;simp[aa];refine c1 f ?_;simp[a,aa];refine c2 g ?_;simp[a,b,aa]
   ·simp[f271,aa];refine c1 d ?_;simp[aa];refine c1 f ?_;simp[a,aa];refine c2 g ?_;simp[a,b,aa]
 ·rw[if_neg c];generalize b9 s=e at*;simp[f271,aa];refine c1 d ?_;simp[c,aa]
def gX(o p:cX):Bool:=decide (o.dP=p.dP)&&(decide (dO (aS o.a) (aS p.b)<=0)&&decide (dO (aS p.a) (aS o.b)<=0))
def iA(n:Nat)(c:List cX)(p:cX):Int:=
 if isName p.name=false then 8
 else if c.any (fun o=>decide (o.name=p.name))=true then 9
 else if p.dP<0\/(n:Int)<=p.dP then 10
 else if b9 p.a≠0 then b9 p.a
 else if b9 p.b≠0 then b9 p.b
 else if max (fA (aS p.a)) (fA (aS p.b))≠0 then max (fA (aS p.a)) (fA (aS p.b))
 else if 0<dO (aS p.a) (aS p.b)then 11
 else if c.any (fun o=>gX o p)=true then 17 else 0
def qu(p:cX):Prop:=ji p.name/\ji p.a/\ji p.b
def ar.pk(t:ar)(i:Nat):cX:=t.ba.getD i ⟨[],0,[],[]⟩
@[simp] theorem ar.Rv{t:ar}{i:Nat}(h:i<t.ba.length):t.ba[i]'h=t.pk i:=by
 rw[ar.pk,dp,ce h];rfl
theorem ar.jC{t:ar}{i:Nat}(h:i<t.ba.length):t.ba[i]?=some (t.pk i):=by rw[ce h,ar.Rv]
theorem uT{α:Type}{f:α->Bool}{l:List α}{i:Nat}{x:α}(h:l[i]?=some x):(l.take (i+1)).any f=((l.take i).any f||f x):=by
 rw[c9,h];simp
theorem Sn(t:ar)(i:Nat)(hi:i<t.ba.length)(V:t.ba.length<=1000000)(hc:t.cs.length<=1000000)(Q:∀p∈t.ba,qu p)(R:∀j,j<i->b9 (t.pk j).a=0/\b9 (t.pk j).b=0):
 aB prog 210 [df t,.int .i64 i] (.int .i64 (iA t.cs.length (t.ba.take i) (t.pk i))):=by
 have v:=ar.jC hi;obtain⟨S,E,F⟩:=Q _ (b3 v);have m:=Bg (t.pk i).name S.1;have O:=wJ (t.pk i).a E;have P:=wJ (t.pk i).b F;refine aJ nf (i_ func210) mix (by simp[f210]) ?_;rw[iA];cases B:isName (t.pk i).name
 ·rw[B]at m;simp[f210,aa,v,hi];refine c1 m ?_;simp[aa]
 rw[B]at m;rw[if_neg (by decide)];simp[f210,aa,v,hi];refine c1 m ?_;simp[aa];refine lp (α:=Nat) (fun j=>⟨[(6,.p (.int .i64 j)),(5,.ptr 1 []),(2,.ptr 0 []),(1,.p (.int .i64 i))],[.box false (.p (df t)),.box false (.p (fq (t.pk i)))]⟩) (fun j=>j<=i/\(t.ba.take j).any (fun o=>decide (o.name=(t.pk i).name))=false) (fun j=>i-j) 0 s_ ?_;rintro j ⟨W,D⟩
 by_cases q:j<i
 ·have z:j<t.ba.length:=by omega
  have g:=ar.jC z;have f:=b6 (i:=j) o_
  by_cases n:(t.pk j).name=(t.pk i).name
  ·have:(t.ba.take i).any (fun o=>decide (o.name=(t.pk i).name))=true:=by
    rw[ck];exact⟨t.pk j,b3 (i:=j) (by rw[eb,if_pos q];exact g),by simp[n]⟩
   rw[if_pos this];simp[q,z,g,n,aa]
  ·simp[q,z,g,n,f,aa];exact rd (j+1) ⟨q,by rw[uT g,D];simp[n]⟩
 have:j=i:=o_
 subst this;rw[D,if_neg (by decide)];have u:((t.pk j).dP<0\/(t.cs.length:Int)<=(t.pk j).dP)\/(¬(t.pk j).dP<0/\¬(t.cs.length:Int)<=(t.pk j).dP):=o_
 rcases u with u|⟨L,N⟩
 ·rw[if_pos u]
  by_cases e1:(t.pk j).dP<0
  ·simp[e1,aa]
  ·have e2:(t.cs.length:Int)<=(t.pk j).dP:=by omega
   simp[e1,e2,aa]
 rw[if_neg o_];have K:¬j<j:=o_
 simp[L,N,K,aa];refine c1 O ?_
 by_cases c:b9 (t.pk j).a=0
 case neg=>
  rw[if_pos c];simp[c,aa]
 rw[if_neg (by simp[c])];simp[c,aa];refine c1 P ?_
 by_cases d:b9 (t.pk j).b=0
 case neg=>
  rw[if_pos d];simp[d,aa]
 rw[if_neg (by simp[d])];simp[d,aa];have G:=gM c;have H:=gM d;have x:=FA (t.pk j).a E;have y:=FA (t.pk j).b F;rw[xB,if_pos c]at x;rw[xB,if_pos d]at y;have A:=uW (aS (t.pk j).a) (aS (t.pk j).b) (G.mono (by decide)) (H.mono (by decide));rw[(ka c).1,(ka d).1]at A;refine e1 x ?_;simp[aa];refine e1 y ?_;have em:max (fA (aS (t.pk j).a)) (fA (aS (t.pk j).b))=if fA (aS (t.pk j).a)<fA (aS (t.pk j).b)then fA (aS (t.pk j).b)else fA (aS (t.pk j).a):=by split<;>omega
 simp[aa,<-em];clear em x y;generalize max (fA (aS (t.pk j).a)) (fA (aS (t.pk j).b))=M at*
 by_cases hm:M=0
 case neg=>
  simp[hm,aa]
 subst hm;simp[aa];refine c2 A ?_
 by_cases s:0<dO (aS (t.pk j).a) (aS (t.pk j).b)
 ·rw[if_pos s];simp[s,aa]
 rw[if_neg s];simp[s,aa];refine lp (α:=Nat) (fun k=>⟨[(8,.p (.int .i64 k)),(5,.ptr 1 []),(2,.ptr 0 []),(1,.p (.int .i64 j))],[.box false (.p (df t)),.box false (.p (fq (t.pk j)))]⟩) (fun k=>k<=j/\(t.ba.take k).any (fun o=>gX o (t.pk j))=false) (fun k=>j-k) 0 s_ ?_;rintro k ⟨k1,k2⟩
 by_cases hk:k<j
 ·have e:k<t.ba.length:=by omega
  have gk:=ar.jC e;have f:=b6 (i:=k) o_;obtain⟨I,J⟩:=R k hk;have T:=gM I;have U:=gM J;have l:=uW (aS (t.pk k).a) (aS (t.pk j).b) (T.mono (by decide)) (H.mono (by decide));have w:=uW (aS (t.pk j).a) (aS (t.pk k).b) (G.mono (by decide)) (U.mono (by decide));rw[(ka I).1,(ka d).1]at l;rw[(ka c).1,(ka J).1]at w;have C:gX (t.pk k) (t.pk j)=true->(t.ba.take j).any (fun o=>gX o (t.pk j))=true:=fun h=>by
   rw[ck];exact⟨t.pk k,b3 (i:=k) (by rw[eb,if_pos hk];exact gk),h⟩
  have r:gX (t.pk k) (t.pk j)=false->(t.ba.take (k+1)).any (fun o=>gX o (t.pk j))=false:=fun h=>by
   rw[uT gk,k2,h];rfl
  rw[gX]at C r
  by_cases e1:(t.pk k).dP=(t.pk j).dP
  ·by_cases e2:dO (aS (t.pk k).a) (aS (t.pk j).b)<=0
   ·by_cases e3:dO (aS (t.pk j).a) (aS (t.pk k).b)<=0
    ·rw[if_pos (C (by simp[e1,e2,e3]))];simp[hk,e,gk,e1,aa];refine c2 l ?_;simp[e1,e2,aa];refine c2 w ?_;simp[e1,e2,e3,aa]
    ·simp[hk,e,gk,e1,aa];refine c2 l ?_;simp[e1,e2,aa];refine c2 w ?_;simp[e1,e2,e3,f,aa];exact rd (k+1) ⟨hk,r (by simp[e3])⟩
   ·simp[hk,e,gk,e1,aa];refine c2 l ?_;simp[e1,e2,f,aa];exact rd (k+1) ⟨hk,r (by simp[e2])⟩
  ·simp[hk,e,gk,e1,f,aa];exact rd (k+1) ⟨hk,r (by simp[e1])⟩
 ·have:k=j:=by omega
  subst this;rw[k2,if_neg (by decide)];simp[aa]
structure NV where
 x:NF
 y:NF
noncomputable def bP(v:NV):PV:=.st 141 [eF v.x,eF v.y]
@[simp] theorem aOY(v:NV):aL (bP v)=.agg 141:=rfl
@[simp] theorem aNn(v:NV):bY (bP v)=[eF v.x,eF v.y]:=rfl
@[simp] theorem aMD:prog.cellsOf 141=8:=k_
theorem oG(x y:NF):bP ⟨x,y⟩=.st 141 [eF x,eF y]:=rfl
def NV.q(v:NV):V2:=⟨v.x.q,v.y.q⟩
def NV.add(v w:NV):NV:=⟨v.x.add w.x,v.y.add w.y⟩
def NV.sub(v w:NV):NV:=⟨v.x.sub w.x,v.y.sub w.y⟩
def NV.times(v:NV)(k:NF):NV:=⟨v.x.mul k,v.y.mul k⟩
def NV.dot(v w:NV):NF:=(v.x.mul w.x).add (v.y.mul w.y)
def NV.dx(v w:NV):NF:=(v.x.mul w.y).sub (v.y.mul w.x)
theorem NV.fO(v w:NV):(v.sub w).q=v.q.sub w.q:=by simp only[NV.sub,NV.q,V2.sub,NF.fO]
theorem NV.BT(v w:NV):(v.add w).q=v.q.add w.q:=rfl
theorem NV.uU(v:NV)(k:NF):(v.times k).q=v.q.mul k.q:=rfl
theorem NV.kX(v w:NV):(v.dot w).q=v.q.dot w.q:=rfl
theorem NV.sP(v w:NV):(v.dx w).q=v.q.dx w.q:=NF.fO _ _
theorem IB(v w:NV)(a:bJ kQ v.q)(b:bJ kQ w.q):aB prog 126 [bP v,bP w] (bP (v.add w)):=by
 have c:=su v.x w.x (dF a.1) (dF b.1);have d:=su v.y w.y (dF a.2) (dF b.2);refine aJ nf (i_ func126) mix (by simp[f126]) ?_;rw[NV.add,oG];simp[f126,aa];refine e2 c ?_;simp[aa];refine e2 d ?_;simp[aa]
theorem qh(v w:NV)(a:bJ kQ v.q)(b:bJ kQ w.q):aB prog 118 [bP v,bP w] (bP (v.sub w)):=by
 have c:=qc v.x w.x (dF a.1) (dF b.1);have d:=qc v.y w.y (dF a.2) (dF b.2);refine aJ nf (i_ func118) mix (by simp[f118]) ?_;rw[NV.sub,oG];simp[f118,aa];refine e2 c ?_;simp[aa];refine e2 d ?_;simp[aa]
theorem Eh(v:NV)(k:NF)(a:bJ kQ v.q)(hk:bL kQ k.q):aB prog 127 [bP v,eF k] (bP (v.times k)):=by
 have b:=jQ v.x k (dF a.1) (dF hk);have c:=jQ v.y k (dF a.2) (dF hk);refine aJ nf (i_ func127) mix (by simp[f127]) ?_;rw[NV.times,oG];simp[f127,aa];refine e2 b ?_;simp[aa];refine e2 c ?_;simp[aa]
theorem Ea(v w:NV)(a:bJ kQ v.q)(b:bJ kQ w.q):aB prog 132 [bP v,bP w] (eF (v.dot w)):=by
 have c:=jQ v.x w.x (dF a.1) (dF b.1);have d:=jQ v.y w.y (dF a.2) (dF b.2);have e:=su (v.x.mul w.x) (v.y.mul w.y) ((gC a.1 b.1).mono (by decide)) ((gC a.2 b.2).mono (by decide));refine aJ nf (i_ func132) mix (by simp[f132]) ?_;rw[NV.dot];simp[f132,aa];refine e2 c ?_;simp[aa];refine e2 d ?_;simp[aa];refine e2 e ?_;simp[aa]
theorem Fx(v w:NV)(a:bJ kQ v.q)(b:bJ kQ w.q):aB prog 154 [bP v,bP w] (eF (v.dx w)):=by
 have c:=jQ v.x w.y (dF a.1) (dF b.2);have d:=jQ v.y w.x (dF a.2) (dF b.1);have e:=qc (v.x.mul w.y) (v.y.mul w.x) ((gC a.1 b.2).mono (by decide)) ((gC a.2 b.1).mono (by decide));refine aJ nf (i_ func154) mix (by simp[f154]) ?_;rw[NV.dx];simp[f154,aa];refine e2 c ?_;simp[aa];refine e2 d ?_;simp[aa];refine e2 e ?_;simp[aa]
theorem Ca(v:NV)(a:bJ kQ v.q):aB prog 119 [bP v] (eF (v.dot v)):=by
 refine aJ nf (i_ func119) mix (by simp[f119]) ?_;simp[f119,aa];refine c2 (Ea v v a a) ?_;simp[aa]
def NV.from(p:fF):NV:=⟨⟨aS p.x,false⟩,⟨aS p.y,false⟩⟩
theorem Ed(p:fF)(c:b9 p.x=0)(d:b9 p.y=0)(a:nA p):aB prog 67 [fX p] (bP (.from p)):=by
 have a1:=ki p.x c a.1.1;have b:=ki p.y d a.2.1;refine aJ nf (i_ func67) mix (by simp[f67]) ?_;rw[NV.from,oG];simp[f67,aa];refine e1 a1 ?_;simp[aa];refine e1 b ?_;simp[aa]
structure NS where
 a:NF
 b:NF
 d:NF
noncomputable def AE(s:NS):PV:=.st 159 [eF s.a,eF s.b,eF s.d]
@[simp] theorem aOX(s:NS):aL (AE s)=.agg 159:=rfl
@[simp] theorem aNm(s:NS):bY (AE s)=[eF s.a,eF s.b,eF s.d]:=rfl
def NS.q(s:NS):S3:=⟨s.a.q,s.b.q,s.d.q⟩
def EV(k:Nat)(s:NS):Prop:=bL k s.a.q/\bL k s.b.q/\bL k s.d.q
def NF.width(r:Int):NF:=.int (4*r*r)
theorem H6(r:Int):(NF.width r).q=jO r:=rfl
theorem Z7(r:Int)(a:0<=r)(b:r<=1000000):aB prog 121 [.int .i64 r] (eF (.width r)):=by
 have e:=zy a b;have c:=kj (4*r*r) o_ o_;have w1:bo.wrap (4*r)=4*r:=aQ _ o_ o_;have d:bo.wrap (4*r*r)=4*r*r:=aQ _ o_ o_;refine aJ nf (i_ func121) mix (by simp[f121]) ?_;rw[NF.width];simp[f121,w1,d];refine c1 c ?_;simp[aa]
structure NM where
 w:NV
 d:NV
 root:NF
noncomputable def Qo(m:NM):PV:=.st 148 [bP m.w,bP m.d,eF m.root]
@[simp] theorem aOW(m:NM):aL (Qo m)=.agg 148:=rfl
@[simp] theorem aNl(m:NM):bY (Qo m)=[bP m.w,bP m.d,eF m.root]:=rfl
def NM.of(width:NF)(p d b:NV):NM:=⟨b.sub p,d,(((b.sub p).dot d).mul ((b.sub p).dot d)).sub ((d.dot d).mul (((b.sub p).dot (b.sub p)).sub width))⟩
def NM.far(m:NM):NS:=⟨(m.w.dot m.d).div (m.d.dot m.d),(m.d.dot m.d).inv.neg,m.root⟩
theorem mV:∀l:List Int,bK l=0↔∀e∈l,e=0
 |[]=>by simp[bK]
 |e::r=>by
  rw[bK]
  by_cases h:e=0
  ·rw[if_pos h,mV r];simp[h]
  ·rw[if_neg h];simp[h]
theorem jr{p:fF}(h:ez p=0):b9 p.x=0/\b9 p.y=0:=by
 have:=(mV _).1 h;exact⟨this _ s_,this _ s_⟩
def vP(p:fF):V2:=⟨aS p.x,aS p.y⟩
theorem iW(p:fF):(NV.from p).q=vP p:=rfl
theorem BO{k:Nat}{p:fF}(h:bJ k (vP p)):bJ k (NV.from p).q:=h
def V2.A5(v:V2):V2:=⟨-v.y,v.x⟩
def fY:Nat->V2->V2
 |0,v=>v
 |i+1,v=>(fY i v).A5
def uc(k:Nat):V2:=⟨jf (64-(k:Int)*k) (64+(k:Int)*k),jf (16*(k:Int)) (64+(k:Int)*k)⟩
def RY(n:Nat):V2:=fY (n/8) (uc (n% 8))
theorem DX{n d:Int}{k:Nat}(c:0<d)(a:n.natAbs<2^k)(b:d.natAbs<2^k):bL k (jf n d):=by
 obtain⟨m,rfl⟩:∃m:Nat,d=m:=⟨d.natAbs,o_⟩
 exact zt o_ a (by simpa using b)
theorem Ja{k:Nat}(h:k<8):bJ 8 (uc k):=by
 have b:k*k<=7*7:=gm o_ o_;have a:((k:Int)*k)=((k*k:Nat):Int):=by rw[bW]
 refine⟨?_,?_⟩
 ·rw[uc,a];exact DX o_ o_ o_
 ·rw[uc,a];exact DX o_ o_ o_
theorem aGI{k:Nat}{v:V2}(h:bJ k v):bJ k v.A5:=⟨yV h.2,h.1⟩
theorem Cd{k:Nat}{v:V2}(h:bJ k v):∀i,bJ k (fY i v)
 |0=>h
 |i+1=>aGI (Cd h i)
def NV.A5(v:NV):NV:=⟨v.y.neg,v.x⟩
def NV.fY:Nat->NV->NV
 |0,v=>v
 |i+1,v=>(NV.fY i v).A5
theorem NV.zX(v:NV):∀i,(NV.fY i v).q=Go.aq.fY i v.q
 |0=>rfl
 |i+1=>by rw[NV.fY,Go.aq.fY,<-NV.zX v i];rfl
def kf(k:Nat):NV:=NV.times ⟨.int (64-(k:Int)*k),.int (16*(k:Int))⟩ (NF.int (64+(k:Int)*k)).inv
theorem CJ(n d:Int):jf n d=(n:Rat)*((d:Int):Rat)⁻¹:=by
 rw[jf,Rat.divInt_eq_div,Rat.div_def]
theorem DN(k:Nat):(kf k).q=uc k:=by
 rw[kf,NV.uU,uc,CJ,CJ];rfl
def wL:PV:=.st 121 [.int .i64 0,.aO]
def zeroV:PV:=.st 141 [.st 123 [wL,wL],.st 123 [wL,wL]]
@[simp] theorem aPt:aL zeroV=.agg 141:=rfl
theorem Z6(n:Nat)(h:n<32):aB prog 115 [.int .i64 n] (bP (NV.fY (n/8) (kf (n% 8)))):=by
 obtain⟨k,hk⟩:∃k,n% 8=k:=⟨_,rfl⟩
 have C:k<8:=o_
 obtain⟨m,E⟩:∃m,n/8=m:=⟨_,rfl⟩
 have D:k*k<=7*7:=gm o_ o_;obtain⟨a,o⟩:∃a:Nat,k*k=a:=⟨_,rfl⟩
 have hI:(k:Int)*k=a:=by rw[<-bW,o]
 rw[o]at D;rw[hk,E];have H:=kj (64-(a:Int)) o_ o_;have I:=kj (16*(k:Int)) o_ o_;have J:=kj (64+(a:Int)) o_ o_;have j:bL 8 (NF.int (64+(a:Int))).q:=nu o_ (by decide);have b1:bL 8 (NF.int (64-(a:Int))).q:=nu o_ (by decide);have s:bL 8 (NF.int (16*(k:Int))).q:=nu o_ (by decide);have G:(NF.int (64+(a:Int))).q≠0:=by
  show((64+(a:Int):Int):Rat)≠0;intro h;have N:(64+(a:Int):Int)=0:=by exact_mod_cast h
  omega
 have K:=DK (NF.int (64+(a:Int))) (j.mono (by decide)) G;have w:bJ kQ (NV.mk (.int (64-(a:Int))) (.int (16*(k:Int)))).q:=⟨b1.mono (by decide),s.mono (by decide)⟩
 have r:=Eh ⟨.int (64-(a:Int)),.int (16*(k:Int))⟩ (NF.int (64+(a:Int))).inv w ((BZ j).mono (by decide));have L:bJ 8 (kf k).q:=by rw[DN];exact Ja C
 have e0:kf k=NV.times ⟨.int (64-(a:Int)),.int (16*(k:Int))⟩ (NF.int (64+(a:Int))).inv:=by rw[kf,hI]
 rw[<-e0,oG]at r;have b:(n:Int).tmod 8=k:=by rw[bv (bV _)];omega
 have c:(n:Int).tdiv 8=m:=by rw[Int.tdiv_eq_ediv_of_nonneg (bV _)];omega
 have w0:bo.wrap (k:Int)=k:=aQ _ o_ o_;have w1:bo.wrap (a:Int)=a:=aQ _ o_ o_;have d:bo.wrap (64-(a:Int))=64-(a:Int):=aQ _ o_ o_;have e:bo.wrap (64+(a:Int))=64+(a:Int):=aQ _ o_ o_;have f:bo.wrap (16*(k:Int))=16*(k:Int):=aQ _ o_ o_;have g:bo.wrap (m:Int)=m:=aQ _ o_ o_;have O:m<4:=o_
 generalize kf k=u at*;clear e0;refine aJ nf (i_ func115) mix (by simp[f115]) ?_;simp[f115,b,c,w0,w1,d,e,f,g,hI,aa];refine c1 H ?_;simp[b,c,w0,w1,d,e,f,g,hI,aa];refine c1 I ?_;simp[b,c,w0,w1,d,e,f,g,hI,aa];refine c1 J ?_;simp[b,c,w0,w1,d,e,f,g,hI,aa];refine c1 K ?_;simp[b,c,w0,w1,d,e,f,g,hI,aa];refine c2 r ?_;simp[b,c,w0,w1,d,e,f,g,hI,aa];refine lp (α:=Nat) (fun i=>⟨[(25,.p (.int .i64 i)),(24,.p (.int .i64 m)),(4,.ptr 1 []),(2,.ptr 0 [])],[.box false (.p zeroV),.box false (.p (bP (NV.fY i u)))]⟩)
  (fun i=>i<=m) (fun i=>m-i) 0 (Nat.zero_le _) ?_ (hh:=by simp[NV.fY,oG,bP,zeroV,wL])
 intro i hi;have M:bo.wrap ((i:Int)+1)=(i:Int)+1:=aQ _ o_ o_;have t:bJ 8 (NV.fY i u).q:=by rw[NV.zX];exact Cd L i
 have z:=DJ (NV.fY i u).y (t.2.mono (by decide))
 by_cases A:i<m
 ·have F:NV.fY (i+1) u=⟨(NV.fY i u).y.neg,(NV.fY i u).x⟩:=rfl;generalize P:NV.fY i u=v at*;obtain⟨x,y⟩:=v;have l:(i:Int)<m:=by omega
  rw[oG];simp[l,A,aa];refine e1 z ?_;simp[aa];refine⟨by repeat' first|rfl|apply am,?_⟩;exact rd (i+1) (show i+1<=m by omega) (he:=by simp[M]) (hh:=by simp[F,oG])
 ·have l:¬(i:Int)<m:=by omega
  have B:i=m:=o_
  subst B;simp[zeroV,aa]
theorem Ax{s:List Nat}(h:fe s 9=true):bL 30 (aS s):=by
 simp only[fe,ao,decide_eq_true_eq]at h;have a:=NZ h.1.2;have b:=NZ h.2;exact⟨gt a (by decide),gt b (by decide)⟩
structure NB where
 a:NV
 b:NV
 d:NF
noncomputable def Qn(n:NB):PV:=.st 152 [bP n.a,bP n.b,eF n.d]
@[simp] theorem aOV(n:NB):aL (Qn n)=.agg 152:=rfl
@[simp] theorem aNk(n:NB):bY (Qn n)=[bP n.a,bP n.b,eF n.d]:=rfl
def NB.q(n:NB):P4:=⟨⟨n.a.x.q,n.b.x.q,n.d.q⟩,⟨n.a.y.q,n.b.y.q,n.d.q⟩⟩
def okB(k:Nat)(n:NB):Prop:=bJ k n.a.q/\bJ k n.b.q/\bL k n.d.q
theorem okB.mono{k l:Nat}{n:NB}(h:okB k n)(a:k<=l):okB l n:=⟨h.1.mono a,h.2.1.mono a,h.2.2.mono a⟩
theorem PU(e:Int):∀l:List Int,bK (l++[e])=if bK l=0 then e else bK l
 |[]=>by by_cases h:e=0<;>simp[bK,h]
 |x::l=>by
  simp only[List.cons_append,bK,PU e l]
  by_cases hx:x=0
  ·simp[hx]
  ·simp[hx]
def fU{α:Type}(a:List α->α->Int)(l:List α)(i:Nat):Int:=match l[i]? with
 |some x=>a (l.take i) x
 |none=>0
def jH{α:Type}(a:List α->α->Int)(l:List α):Int:=bK ((cv l.length).map (fU a l))
theorem Bf{f:Nat->Int}:∀(n i:Nat),(∀j,j<i->f j=0)->i<n->f i≠0->bK ((cv n).map f)=f i
 |0,i,_,h,_=>by omega
 |n+1,i,a,g,b=>by
  rw[ed,e8,cx,ec,PU]
  by_cases hi:i<n
  ·rw[Bf n i a hi b,if_neg b]
  ·have:i=n:=by omega
   subst this;rw[(mV _).2 (by intro e c;obtain⟨j,d,rfl⟩:=dq.1 c;exact a j (dk.1 d)),if_pos rfl]
theorem sT{α:Type}{a:List α->α->Int}{l:List α}{i:Nat}{x:α}(h:∀j,j<i->fU a l j=0)(hx:l[i]?=some x)(b:a (l.take i) x≠0):jH a l=a (l.take i) x:=by
 have hi:=(List.getElem?_eq_some_iff.1 hx).1;have e:fU a l i=a (l.take i) x:=by rw[fU,hx]
 rw[jH,Bf _ i h hi (by rw[e];exact b),e]
theorem mM{α:Type}{b:List α->α->Int}{l:List α}:jH b l=0↔∀j,j<l.length->fU b l j=0:=by
 rw[jH,mV];constructor
 ·intro h j a;exact h _ (dq.2 ⟨j,dk.2 a,rfl⟩)
 ·intro h e c;obtain⟨j,a,rfl⟩:=dq.1 c;exact h j (dk.1 a)
theorem sS{α:Type}{a:List α->α->Int}{l:List α}{i:Nat}{x:α}(h:∀j,j<i->fU a l j=0)(hx:l[i]?=some x)(c:a (l.take i) x=0):∀j,j<i+1->fU a l j=0:=by
 intro j d
 by_cases b:j=i
 ·subst b;rw[fU,hx];exact c
 ·exact h j o_
def jl(t:ar)(bef:List ch)(s:ch):Int:=
 if isName s.name=false then 8
 else if bef.any (fun o=>decide (o.name=s.name))=true then 9
 else if ez s.pt≠0 then ez s.pt
 else if t.on (vP s.pt)<0 then 16 else 0
def gz(t:ar):Int:=
 if t.cs.length<3 then 2
 else if 12<t.cs.length then 5
 else if t.cs.any fR=true then 3
 else if t.gv=false then 15
 else if t.aR<1\/1000<t.aR then 3
 else if 12<t.ba.length then 5
 else if jH (iA t.cs.length) t.ba≠0 then jH (iA t.cs.length) t.ba
 else if 256<t.ak.length then 5
 else jH (jl t) t.ak
def nB(p:ch):Prop:=ji p.name/\nA p.pt
def ar.sp(t:ar)(i:Nat):ch:=t.ak.getD i ⟨[],⟨[],[]⟩⟩
@[simp] theorem ar.jD{t:ar}{i:Nat}(h:i<t.ak.length):t.ak[i]'h=t.sp i:=by
 rw[ar.sp,dp,ce h];rfl
theorem ar.dU{t:ar}{i:Nat}(h:i<t.ak.length):t.ak[i]?=some (t.sp i):=by rw[ce h,ar.jD]
structure iB(t:ar):Prop where
 cl:t.cs.length<=1000000
 pl:t.ba.length<=1000000
 sl:t.ak.length<=1000000
 pk:∀p∈t.ba,qu p
 sp:∀s∈t.ak,nB s
def iH(t:ar)(name:List Nat):Int:=match t.ak.findIdx? (fun s=>decide (s.name=name))with
 |some i=>i
 |none=>-1
theorem Bk{n:Nat}{c:List cX}{p:cX}(h:iA n c p=0):b9 p.a=0/\b9 p.b=0:=by
 rw[iA]at h
 split at h
 ·omega
 split at h
 ·omega
 split at h
 ·omega
 split at h
 ·contradiction
 split at h
 ·contradiction
 rename_i d e;exact⟨bb.1 d,bb.1 e⟩
theorem ZF(t:ar)(name:List Nat)(h:t.ak.length<=1000000):aB prog 212 [df t,.str name] (.int .i64 (iH t name)):=by
 refine aJ nf (i_ func212) mix (by simp[f212]) ?_;simp[f212,aa];refine lp (α:=Nat) (fun i=>⟨[(5,.p (.int .i64 i)),(2,.ptr 0 []),(1,.p (.str name))],[.box false (.p (df t))]⟩) (fun i=>i<=t.ak.length/\∀j,j<i->¬(t.sp j).name=name) (fun i=>t.ak.length-i) 0 s_ ?_;rintro i ⟨g,c⟩
 by_cases hi:i<t.ak.length
 ·have d:=ar.dU hi;have f:=b6 (i:=i) o_
  by_cases a:(t.sp i).name=name
  ·have:iH t name=i:=by
    have:t.ak.findIdx? (fun s=>decide (s.name=name))=some i:=by
     rw[c6];refine⟨hi,by rw[ar.jD];simp[a],fun j b=>?_⟩;rw[ar.jD];simp[c j b]
    rw[iH,this]
   simp[hi,d,a,this,aa]
  ·simp[hi,d,a,f,aa];exact rd (i+1) ⟨hi,fun j b=>by
    by_cases e:j=i
    ·subst e;exact a
    ·exact c j o_⟩
 ·have:i=t.ak.length:=by omega
  subst this;have:iH t name= -1:=by
   have:t.ak.findIdx? (fun s=>decide (s.name=name))=none:=by
    rw[dz];intro s hs;obtain⟨j,b,rfl⟩:=cb.1 hs;rw[ar.jD];simp[c j b]
   rw[iH,this]
  simp[this,aa]
theorem aIb{t:ar}{i:Nat}(hi:i<t.ak.length):iH t (t.sp i).name<i↔(t.ak.take i).any (fun o=>decide (o.name=(t.sp i).name))=true:=by
 obtain⟨k,hk⟩:∃k,t.ak.findIdx? (fun s=>decide (s.name=(t.sp i).name))=some k:=by
  cases h:t.ak.findIdx? (fun s=>decide (s.name=(t.sp i).name))with
  |some k=>exact⟨k,rfl⟩
  |none=>
   rw[dz]at h;have:=h _ (b3 (ar.dU hi));simp at this
 rw[iH,hk];rw[c6]at hk;obtain⟨k1,k2,k3⟩:=hk;rw[ck];constructor
 ·intro h;have h:k<i:=by simp only at h;omega
  exact⟨t.ak[k],b3 (i:=k) (by rw[eb,if_pos h,ce k1]),k2⟩
 ·rintro⟨o,b,a⟩;obtain⟨j,c,rfl⟩:=cb.1 b;simp only[da]at c;simp only;rw[ej]at a;have:¬j<k:=fun d=>by
   have:=k3 j d;rw[a]at this;simp at this
  omega
theorem Sk(t:ar)(K:iB t):aB prog 111 [df t] (.int .i64 (gz t)):=by
 obtain⟨r,L,M,I,J⟩:=K;refine aJ nf (i_ func111) mix (by simp[f111]) ?_;rw[gz]
 by_cases c1:t.cs.length<3
 ·have cI:(t.cs.length:Int)<3:=by omega
  rw[if_pos c1];simp[f111,aa,cI]
 have u:¬(t.cs.length:Int)<3:=o_
 rw[if_neg c1]
 by_cases c2:12<t.cs.length
 ·have cI:(12:Int)<t.cs.length:=by omega
  rw[if_pos c2];simp[f111,aa,u,cI]
 have z:¬(12:Int)<t.cs.length:=o_
 rw[if_neg c2];simp[f111,aa,u,z];refine lp (α:=Nat) (fun i=>⟨[(3,.p (.int .i64 i)),(1,.ptr 0 [])],[.box false (.p (df t))]⟩) (fun i=>i<=t.cs.length/\(t.cs.take i).any fR=false) (fun i=>t.cs.length-i) 0 s_ ?_;rintro i ⟨i1,i2⟩
 by_cases hi:i<t.cs.length
 ·have g:=ar.get hi;have e:=b6 (i:=i) o_;have k:=ZL (t.at i);cases hf:fR (t.at i)
  ·rw[hf]at k;simp[hi,g,aa];refine c1_ k ?_;simp[e,aa];exact rd (i+1) ⟨hi,by rw[uT g,i2,hf];rfl⟩
  ·rw[hf]at k;have:t.cs.any fR=true:=ck.2 ⟨t.at i,b3 g,hf⟩;rw[if_pos this];simp[hi,g,aa];refine c1_ k ?_;simp[aa]
 have:i=t.cs.length:=o_
 subst this;rw[b5]at i2;have w:∀p∈t.cs,dV p:=fun p H=>FC (by
  cases h:fR p
  ·rfl
  ·rw[ck.2 ⟨p,H,h⟩]at i2;cases i2)
 have D:=SQ t r w;rw[i2,if_neg (by decide)];simp[aa];refine c1_ D ?_;cases Q:t.gv
 ·simp[aa]
 rw[if_neg (by decide)];have s:(t.aR<1\/1000<t.aR)\/(¬t.aR<1/\¬1000<t.aR):=o_
 rcases s with s|⟨x,y⟩
 ·rw[if_pos s]
  by_cases e1:t.aR<1
  ·simp[e1,aa]
  ·have e2:1000<t.aR:=by omega
   simp[e1,e2,aa]
 rw[if_neg o_]
 by_cases c3:12<t.ba.length
 ·have cI:(12:Int)<t.ba.length:=by omega
  rw[if_pos c3];simp[x,y,cI,aa]
 have A:¬(12:Int)<t.ba.length:=o_
 rw[if_neg c3];simp[x,y,A,aa];refine lp (α:=Nat) (fun i=>⟨[(4,.p (.int .i64 i)),(1,.ptr 0 [])],[.box false (.p (df t))]⟩) (fun i=>i<=t.ba.length/\∀j,j<i->fU (iA t.cs.length) t.ba j=0) (fun i=>t.ba.length-i) 0 s_ ?_;rintro i ⟨k1,k2⟩
 by_cases hk:i<t.ba.length
 ·have gk:=ar.jC hk;have e:=b6 (i:=i) o_;have b:=Sn t i hk L r I (fun j G=>by
   have:=k2 j G;rw[fU,ar.jC o_]at this;exact Bk this)
  by_cases he:iA t.cs.length (t.ba.take i) (t.pk i)=0
  ·rw[he]at b;simp[hk,aa];refine c2_ b ?_;simp[e,aa];exact rd (i+1) ⟨hk,sS k2 gk he⟩
  ·have F:=sT k2 gk he;rw[F,if_pos he];simp[hk,aa];refine c2_ b ?_;simp[he,aa]
 have:i=t.ba.length:=o_
 subst this;have E:=mM.2 k2;rw[E,if_neg (by decide)]
 by_cases c4:256<t.ak.length
 ·have cI:(256:Int)<t.ak.length:=by omega
  rw[if_pos c4];simp[cI,aa]
 have B:¬(256:Int)<t.ak.length:=o_
 rw[if_neg c4];simp[B,aa];refine lp (α:=Nat) (fun i=>⟨[(6,.p (.int .i64 i)),(1,.ptr 0 [])],[.box false (.p (df t))]⟩) (fun i=>i<=t.ak.length/\∀j,j<i->fU (jl t) t.ak j=0) (fun i=>t.ak.length-i) 0 s_ ?_;rintro i ⟨s1,s2⟩
 by_cases hs:i<t.ak.length
 ·have a:=ar.dU hs;have e:=b6 (i:=i) o_;obtain⟨O,P⟩:=J _ (b3 a);have c:=Bg (t.sp i).name O.1;have l:=ZF t (t.sp i).name M;have b:=IC (t.sp i).pt P;have v:=aIb hs;have f:jl t (t.ak.take i) (t.sp i)≠0->jH (jl t) t.ak=jl t (t.ak.take i) (t.sp i):=sT s2 a;have N:jl t (t.ak.take i) (t.sp i)=0->∀j,j<i+1->fU (jl t) t.ak j=0:=sS s2 a;have ev:jl t (t.ak.take i) (t.sp i)=if isName (t.sp i).name=false then 8 else if(t.ak.take i).any (fun o=>decide (o.name=(t.sp i).name))=true then 9 else if ez (t.sp i).pt≠0 then ez (t.sp i).pt else if t.on (vP (t.sp i).pt)<0 then 16 else 0:=rfl
  cases m:isName (t.sp i).name
  ·rw[m]at c;rw[m,if_pos rfl]at ev;rw[f (by rw[ev];decide),ev];simp[hs,a,aa];refine c1_ c ?_;simp[aa]
  rw[m]at c;rw[m,if_neg (by decide)]at ev
  by_cases d:iH t (t.sp i).name<i
  ·rw[if_pos (v.1 d)]at ev;rw[f (by rw[ev];decide),ev];simp[hs,a,aa];refine c1_ c ?_;simp[aa];refine c2_ l ?_;simp[d,aa]
  rw[if_neg (fun h=>d (v.2 h))]at ev
  by_cases pe:ez (t.sp i).pt=0
  case neg=>
   rw[if_pos pe]at ev;rw[f (by rw[ev];exact pe),ev];simp[hs,a,aa];refine c1_ c ?_;simp[aa];refine c2_ l ?_;simp[d,aa];refine c1_ b ?_;simp[pe,aa]
  rw[if_neg (by simp[pe])]at ev;obtain⟨g1,g2⟩:=jr pe;have q:=P1 t (vP (t.sp i).pt) r w ⟨(gM g1).mono (by decide),(gM g2).mono (by decide)⟩;have C:eV (vP (t.sp i).pt)=fX (t.sp i).pt:=by
   rw[eV,vP];dsimp only;rw[(ka g1).1,(ka g2).1]
  rw[C]at q;rw[pe]at b
  by_cases n:t.on (vP (t.sp i).pt)<0
  ·rw[if_pos n]at ev;rw[f (by rw[ev];decide),ev];simp[hs,a,aa];refine c1_ c ?_;simp[aa];refine c2_ l ?_;simp[d,aa];refine c1_ b ?_;simp[aa];refine c2_ q ?_;simp[n,aa]
  ·rw[if_neg n]at ev;simp[hs,a,aa];refine c1_ c ?_;simp[aa];refine c2_ l ?_;simp[d,aa];refine c1_ b ?_;simp[aa];refine c2_ q ?_;simp[n,e,aa];exact rd (i+1) ⟨hs,N ev⟩
 ·have:i=t.ak.length:=by omega
  subst this;rw[mM.2 s2];simp[aa]
open Go.Proofs Go.Proofs.YtdjojlnnobkliaaGreatDoor
section
variable{H:Type}{W:World}{ad:Nat->Prop}
theorem xu:∀d:bi H,1<=Rows.uptoBulk d:=by
 intro d;cases d with
 |lit l=>cases l<;>simp[Rows.uptoBulk]
 |_=>simp[Rows.uptoBulk]
theorem xG{α:Type}{n:Nat}{t e:TypeId}{F:α->PV}{ok:α->Prop}(g:prog.underlying t=some (.slice e))
 (p:∀(d:bi H),(∃c,aZ prog W ad (bF prog n e d) c)->Rows.uptoBulk d<=1048576->∃a,bF prog n e d=F a/\ok a/\2<=Rows.uptoBulk d)
 {d:bi H}(h:∃cs,aZ prog W ad (bF prog (n+1) t d) cs)(k:Rows.uptoBulk d<=1048576):∃l:List α,bF prog (n+1) t d=.seq (l.map F)/\(∀a∈l,ok a)/\l.length<=1000000:=by
 obtain⟨cs,h⟩:=h;cases d with
 |nil=>exact⟨[],by simp[bF,g],(fun _ h=>nomatch h),s_⟩
 |slice f sp=>
  simp only[bF,g,aZ]at h⊢;have i:∀e'∈f.map (bF prog n e),∃c,aZ prog W ad e' c:=by
   rcases h with⟨h,_⟩|⟨_,_,_,_,w,h,_⟩
   ·rw[h];intro _ h;cases h
   ·exact FK h
  have key:∀f:List (bi H),(∀e'∈f.map (bF prog n e),∃c,aZ prog W ad e' c)->Rows.uptoBulkAll f<=1048576->∃l:List α,f.map (bF prog n e)=l.map F/\(∀a∈l,ok a)/\2*l.length<=Rows.uptoBulkAll f:=by
   intro f
   induction f with
   |nil=>intro _ _;exact⟨[],rfl,(fun _ h=>nomatch h),s_⟩
   |cons d r v=>
    intro i k;rw[Rows.uptoBulkAll]at k⊢;obtain⟨a,q,u,m⟩:=p d (i _ ea) o_;obtain⟨l,j,o,y⟩:=v (fun e' s=>i e' (dl _ s)) o_;refine⟨a::l,by simp only[cx];rw[q,j],fun x hx=>?_,by rw[List.length_cons];omega⟩;rcases ge.1 hx with rfl|hx
    ·exact u
    ·exact o x hx
  rw[Rows.uptoBulk]at k;obtain⟨l,j,m,o⟩:=key f i o_;exact⟨l,by rw[j],m,o_⟩
 |lit l=>simp only[bF,g,aZ]at h
 |ptr d=>simp only[bF,g,aZ]at h
 |agg l=>simp only[bF,g,aZ]at h
 |iface a b=>simp only[bF,g,aZ]at h
 |map l=>simp only[bF,g,aZ]at h
 |held a=>simp only[bF,g,aZ]at h
theorem uV{n:Nat}{d:bi H}(h:∃cs,aZ prog W ad (bF prog (n+1) 9 d) cs)(a:Rows.uptoBulk d<=1048576):∃s:List Nat,bF prog (n+1) 9 d=.str s/\ji s:=by
 obtain⟨cs,h⟩:=h;cases d with
 |lit l=>
  cases l with
  |string bytes=>
   refine⟨bytes.map (·.toNat),by simp only[bF,Ff],?_,?_⟩
   ·rw[Rows.uptoBulk]at a;rw[e9];omega
   ·intro c hc;obtain⟨u,_,rfl⟩:=dq.1 hc;exact u.toNat_lt
  |_=>simp only[bF,Ff,aZ]at h
 |_=>simp only[bF,Ff,aZ]at h
theorem aLx:∃a b:bl,prog.underlying 202=some (.struct #[a,b])/\a.type=3/\b.type=3:=⟨_,_,underlying202,rfl,rfl⟩
theorem RU:prog.underlyingId 202=201:=k_
theorem SS{m n:Nat}(j:m=n+1){d:bi H}(h:∃cs,aZ prog W ad (bF prog (m+1) 202 d) cs)(o:Rows.uptoBulk d<=1048576):∃p:dS,bF prog (m+1) 202 d=cH p/\True/\2<=Rows.uptoBulk d:=by
 obtain⟨cs,h⟩:=h;obtain⟨f0,f1,f,t0,t1⟩:=aLx;cases d with
 |agg l=>
  simp only[bF,f,aZ]at h⊢;obtain⟨q,k,e,c,_⟩:=h;rw[RU,aIv]at e;cases e
  match l,c with
  |[],c=>simp[bg]at c
  |[x],c=>simp[bg]at c
  |x::y::r,c=>
   have:=xu x;simp only[db,cx,bg,dg,ec,t0,t1]at c⊢;obtain⟨c0,_,_,g1,_,c1,_,_,g2,_⟩:=c;subst j;obtain⟨a,g⟩:=xD (n:=n) x c0 g1;obtain⟨b,i⟩:=xD (n:=n) y c1 g2;refine⟨⟨a,b⟩,by rw[g,i,RU];rfl,trivial,?_⟩;rw[Rows.uptoBulk,Rows.uptoBulkAll];omega
 |_=>simp only[bF,f,aZ]at h
theorem aJu:∃a b f2 f3:bl,prog.underlying 83=some (.struct #[a,b,f2,f3])/\a.type=9/\b.type=3/\f2.type=30/\f3.type=30:=⟨_,_,_,_,underlying83,rfl,rfl,rfl,rfl⟩
theorem RR:prog.underlyingId 83=82:=k_
theorem Sy{m n:Nat}(q:m=n+1){d:bi H}(h:∃cs,aZ prog W ad (bF prog (m+1) 83 d) cs)(o:Rows.uptoBulk d<=1048576):∃p:cX,bF prog (m+1) 83 d=fq p/\qu p/\2<=Rows.uptoBulk d:=by
 obtain⟨cs,h⟩:=h;obtain⟨f0,f1,f2,f3,g,t0,t1,t2,t3⟩:=aJu;cases d with
 |agg l=>
  have e:∀x∈l,Rows.uptoBulk x<=1048576:=fun x hx=>by
   have:=ql.um hx;rw[Rows.uptoBulk]at o;omega
  simp only[bF,g,aZ]at h⊢;obtain⟨B,A,f,c,_⟩:=h;rw[RR,aIz]at f;cases f
  match l,c with
  |[],c=>simp[bg]at c
  |[x],c=>simp[bg]at c
  |[x,y],c=>simp[bg]at c
  |[x,y,z],c=>simp[bg]at c
  |x::y::z::w::r,c=>
   have:=xu x;simp only[db,cx,bg,dg,ec,t0,t1,t2,t3]at c⊢;obtain⟨c0,_,_,g0,_,c1,_,_,g1,_,c2,_,_,g2,_,c3,_,_,g3,_⟩:=c;subst q;obtain⟨a,i,k⟩:=uV (n:=n) ⟨c0,g0⟩ (e x s_);obtain⟨b,j⟩:=xD (n:=n) y c1 g1;obtain⟨u,eu,s⟩:=Aj (n:=n) ⟨c2,g2⟩ (e z s_);obtain⟨v,ev,t⟩:=Aj (n:=n) ⟨c3,g3⟩ (e w s_);refine⟨⟨a,b,u,v⟩,by rw[i,j,eu,ev,RR];rfl,⟨k,s,t⟩,?_⟩;rw[Rows.uptoBulk,Rows.uptoBulkAll];omega
 |_=>simp only[bF,g,aZ]at h
theorem aLz:∃a b:bl,prog.underlying 146=some (.struct #[a,b])/\a.type=9/\b.type=32:=⟨_,_,underlying146,rfl,rfl⟩
theorem RW:prog.underlyingId 146=76:=k_
theorem SR{m n:Nat}(s:m=n+2){d:bi H}(h:∃cs,aZ prog W ad (bF prog (m+1) 146 d) cs)(o:Rows.uptoBulk d<=1048576):∃p:ch,bF prog (m+1) 146 d=bC p/\nB p/\2<=Rows.uptoBulk d:=by
 obtain⟨cs,h⟩:=h;obtain⟨f0,f1,g,t0,t1⟩:=aLz;cases d with
 |agg l=>
  have f:∀x∈l,Rows.uptoBulk x<=1048576:=fun x hx=>by
   have:=ql.um hx;rw[Rows.uptoBulk]at o;omega
  simp only[bF,g,aZ]at h⊢;obtain⟨u,t,e,c,_⟩:=h;rw[RW,RN]at e;cases e
  match l,c with
  |[],c=>simp[bg]at c
  |[x],c=>simp[bg]at c
  |x::y::r,c=>
   have:=xu x;simp only[db,cx,bg,dg,ec,t0,t1]at c⊢;obtain⟨c0,_,_,g1,_,c1,_,_,g2,_⟩:=c;subst s;obtain⟨a,i,k⟩:=uV (n:=n+1) ⟨c0,g1⟩ (f x s_);obtain⟨b,j,q⟩:=J8 (n:=n) ⟨c1,g2⟩ (f y s_);refine⟨⟨a,b⟩,by rw[i,j,RW];rfl,⟨k,q⟩,?_⟩;rw[Rows.uptoBulk,Rows.uptoBulkAll];omega
 |_=>simp only[bF,g,aZ]at h
theorem aLA:∃a b f2 f3:bl,prog.underlying 26=some (.struct #[a,b,f2,f3])/\a.type=22/\b.type=3/\f2.type=23/\f3.type=24:=⟨_,_,_,_,underlying26,rfl,rfl,rfl,rfl⟩
theorem RX:prog.underlyingId 26=25:=k_
theorem aIA{m n:Nat}(p:m=n+4){d:bi H}(h:∃cs,aZ prog W ad (bF prog (m+1) 26 d) cs)(e:Rows.uptoBulk d<=1048576):∃t:ar,bF prog (m+1) 26 d=df t/\True/\iB t:=by
 obtain⟨cs,h⟩:=h;obtain⟨f0,f1,f2,f3,j,t0,t1,t2,t3⟩:=aLA;cases d with
 |agg l=>
  have g:∀x∈l,Rows.uptoBulk x<=1048576:=fun x hx=>by
   have:=ql.um hx;rw[Rows.uptoBulk]at e;omega
  simp only[bF,j,aZ]at h⊢;obtain⟨E,D,i,c,_⟩:=h;rw[RX,aIw]at i;cases i
  match l,c with
  |[],c=>simp[bg]at c
  |[x],c=>simp[bg]at c
  |[x,y],c=>simp[bg]at c
  |[x,y,z],c=>simp[bg]at c
  |x::y::z::w::r,c=>
   simp only[db,cx,bg,dg,ec,t0,t1,t2,t3]at c⊢;obtain⟨c0,_,_,g0,_,c1,_,_,g1,_,c2,_,_,g2,_,c3,_,_,g3,_⟩:=c;subst p;obtain⟨a,k,_,A⟩:=xG (n:=n+3) aJp (F:=cH) (ok:=fun _=>True) (fun d f e=>SS (n:=n+1) rfl f e) ⟨c0,g0⟩ (g x s_);obtain⟨b,o⟩:=xD (n:=n+3) y c1 g1;obtain⟨u,eu,q,B⟩:=xG (n:=n+3) aJq (F:=fq) (ok:=qu) (fun d f e=>Sy (n:=n+1) rfl f e) ⟨c2,g2⟩ (g z s_);obtain⟨v,ev,s,C⟩:=xG (n:=n+3) aJr (F:=bC) (ok:=nB) (fun d f e=>SR (n:=n) rfl f e) ⟨c3,g3⟩ (g w s_);exact⟨⟨a,b,u,v⟩,by rw[k,o,eu,ev,RX];rfl,trivial,A,B,C,q,s⟩
 |_=>simp only[bF,j,aZ]at h
end
def dZ(p:cX):PV:=.st 82 [.str p.name,.int .i64 p.dP,.str p.a,.str p.b]
def gQ(p:ch):PV:=.st 76 [.str p.name,fX p.pt]
def bU(t:ar):PV:=.st 42 [.seq (t.cs.map cH),.int .i64 t.aR,.seq (t.ba.map dZ),.seq (t.ak.map gQ)]
@[simp] theorem aO2(p:cX):aL (dZ p)=.agg 82:=rfl
@[simp] theorem aNr(p:cX):bY (dZ p)=[.str p.name,.int .i64 p.dP,.str p.a,.str p.b]:=rfl
@[simp] theorem aO9(p:ch):aL (gQ p)=.agg 76:=rfl
@[simp] theorem aNy(p:ch):bY (gQ p)=[.str p.name,fX p.pt]:=rfl
@[simp] theorem aPc(t:ar):aL (bU t)=.agg 42:=rfl
@[simp] theorem aNA(t:ar):bY (bU t)=[.seq (t.cs.map cH),.int .i64 t.aR,.seq (t.ba.map dZ),.seq (t.ak.map gQ)]:=rfl
@[simp] theorem aMJ:prog.cellsOf 42=4:=k_
theorem Z3(p:dS):aB prog 222 [cH p] (.bool (fR p)):=by
 obtain⟨x,y⟩:=p;refine aJ nf (i_ func222) mix (by simp[f222]) ?_;have e1:max x y=if x<y then y else x:=by split<;>omega
 have e2:min x y=if y<x then y else x:=by split<;>omega
 rw[fR,e1,e2]
 by_cases h:(if x<y then y else x)<=10000
 ·have a:¬10000<(if x<y then y else x):=by omega
  by_cases b:(if y<x then y else x)< -10000
  ·simp[f222,aa,h,a,b]
  ·simp[f222,aa,h,a,b]
 ·have a:10000<(if x<y then y else x):=by omega
  simp[f222,aa,h,a]
def idxFrom{α:Type}(p:α->Bool):List α->Nat->Int
 |[],_=>-1
 |x::r,i=>if p x then(i:Int)else idxFrom p r (i+1)
theorem oZ{α:Type}(p:α->Bool):∀(l:List α)(i:Nat),decide (0<=idxFrom p l i)=l.any p
 |[],i=>by simp[idxFrom]
 |x::r,i=>by
  by_cases h:p x
  ·simp[idxFrom,h]
  ·simp[idxFrom,h,oZ p r]
theorem Sw(l:List dS)(h:l.length<=1000000):
 aB prog 281 [.seq (l.map cH),.func 222 [] []] (.int .i64 (idxFrom fR l 0)):=by
 refine aJ nf (i_ func281) mix (by simp[f281]) ?_;simp[f281];refine lp (α:=Nat) (fun i=>⟨[(8,.p (.int .i64 i)),(7,.p (.int .i64 l.length)),(1,.p (.func 222 [] [])),(0,.p (.seq (l.map cH)))],[]⟩) (fun i=>i<=l.length/\idxFrom fR l 0=idxFrom fR (l.drop i) i) (fun i=>l.length-i) 0 s_ ?_;rintro i ⟨k1,k2⟩
 by_cases hi:i<l.length
 ·rw[b4 hi]at k2;have b:=b6 (i:=i) o_;simp[hi];refine c1 (Z3 l[i]) ?_
  by_cases a:fR l[i]
  ·simp[idxFrom,a]at k2;simp[a,k2]
  ·simp[idxFrom,a]at k2;simp[a,b];exact rd (i+1) ⟨hi,k2⟩
 ·have:i=l.length:=by omega
  subst this;simp[idxFrom]at k2;simp[k2]
theorem Si(l:List dS)(h:l.length<=1000000):
 aB prog 221 [.seq (l.map cH),.func 222 [] []] (.bool (l.any fR)):=by
 refine aJ nf (i_ func221) mix (by simp[f221]) ?_;simp[f221];refine c2 (Sw l h) ?_;simp[<-oZ fR l 0]
def mL(l:List dS):List (PV×PV):=l.map (fun p=>(cH p,PV.bool true))
theorem Gg{p q:dS}(h:¬p=q):¬(p.x=q.x/\p.y=q.y):=fun⟨a,b⟩=>h (by cases p;cases q;simp_all)
theorem axs(a b c d:Int):iX prog 9 202 (.st 201 [.int .i64 a,.int .i64 b]) (.st 201 [.int .i64 c,.int .i64 d])=some ((a==c)&&((b==d)&&true)):=k_
@[simp] theorem Bp(p q:dS):iX prog 9 202 (cH p) (cH q)=some (decide (p=q)):=by
 rw[cH,cH,axs]
 by_cases h:p=q
 ·subst h;simp
 ·rw[decide_eq_false h];have:=Gg h
  by_cases a:p.x=q.x
  ·have b:¬p.y=q.y:=fun b=>this ⟨a,b⟩;simp[a,b]
  ·simp[a]
theorem Gf(p q:dS):jT (cH p) (cH q)=some (decide (p=q)):=by
 by_cases h:p=q
 ·subst h;simp[cH,jT,xa]
 ·rw[decide_eq_false h];have:=Gg h
  by_cases a:p.x=q.x
  ·have b:¬p.y=q.y:=fun b=>this ⟨a,b⟩;simp[cH,jT,xa,a,beq_false_of_ne b]
  ·simp[cH,jT,xa,beq_false_of_ne a]
theorem axq(p q:dS):oR prog 202 (cH p) (cH q)=some (decide (p=q)):=by
 have e1:=Bp p q;have e2:=Gf p q;rw[cH]at e1 e2⊢;rw[oR,e1,e2];simp
@[simp] theorem FH(q:dS):∀l:List dS,fN prog 202 (mL l) (cH q)=some (if q∈l then some (.bool true)else none)
 |[]=>rfl
 |p::r=>by
  rw[mL,cx,fN,axq]
  by_cases h:q=p
  ·simp[h]
  ·have:=FH q r;rw[mL]at this;simp[h,this]
theorem Su{q:dS}{l:List dS}(h:¬q∈l):mq prog 202 (mL l) (cH q)=some none:=by
 have:=FH q l;rw[if_neg h]at this;rw[cH]at this⊢;rw[mq,this]
theorem FI{q:dS}:∀{l:List dS},¬q∈l->gh (mL l) (cH q) (.bool true)=mL (l++[q])
 |[],_=>rfl
 |p::r,h=>by
  have a:¬q=p:=fun e=>h (e▸ea);have b:¬q∈r:=fun e=>h (dl _ e);have:=FI b;rw[mL]at this⊢;rw[cx,gh,Gf,this];simp[a,mL]
theorem aGA:ux prog 202=true:=k_
@[simp high] theorem aMv(c:Bool)(H:aj)(p q:dS):jx prog .neq 202 c H (.p (cH p)) (.p (cH q))=some (True,{v:=.p (.bool !(decide (p=q)))}):=by
 have e:=Bp p q;rw[cH,cH]at*;simp[jx,e,aGA]
@[simp high] theorem aNd(q:dS):eZ prog 202 (cH q)=true:=by
 have e1:=Bp q q;rw[cH]at e1⊢;rw[eZ];simp[e1]
theorem SL(a c:dS):lX a a c=0:=by simp[lX]
theorem Sv(a b:dS):lX a b a=0:=by simp[lX]
theorem SG{t:ar}(e:3<=t.cs.length){j k:Nat}(c:j<t.cs.length)(hk:k<t.cs.length)(d:j≠k)(b:t.at j=t.at k):t.gv=false:=by
 rw[ar.gv,decide_eq_false_iff_not];intro h
 by_cases hx:k=t.nx j
 ·obtain⟨m,m1,m2,m3⟩:∃m,m<t.cs.length/\m≠j/\m≠k:=by
   rcases gj j k with a|a|a
   ·by_cases e0:j=0
    ·by_cases e1:k=1
     ·exact⟨2,o_,o_,o_⟩
     ·exact⟨1,o_,o_,o_⟩
    ·exact⟨0,o_,o_,o_⟩
   ·exact(d a).elim
   ·by_cases e0:k=0
    ·by_cases e1:j=1
     ·exact⟨2,o_,o_,o_⟩
     ·exact⟨1,o_,o_,o_⟩
    ·exact⟨0,o_,o_,o_⟩
  have:=h j c m m1 m2 (hx▸m3);rw[<-hx,<-b,SL]at this;omega
 ·have:=h j c k hk (Ne.symm d) hx;rw[<-b,Sv]at this;omega
theorem SO(t:ar)(ai:3<=t.cs.length)(aj:t.cs.length<=1000000)(F:∀p∈t.cs,dV p):aB prog 223 [bU t] (.bool t.gv):=by
 refine aJ nf (i_ func223) mix (by simp[f223]) ?_;generalize q:t.cs.length=n at*;simp[f223,aa,q];refine lp (α:=Nat) (fun i=>⟨[(16,.p (.int .i64 i)),(15,.p (.int .i64 n)),(14,.p (.seq (t.cs.map cH))),(3,.map 1),(1,.ptr 0 [])],[.box false (.p (bU t)),.map false (mL (t.cs.take i))]⟩) (fun i=>i<=n/\∀j k,j<k->k<i->t.at j≠t.at k) (fun i=>n-i) 0 s_ ?_ (hh:=by simp[mL]);rintro i ⟨ah,E⟩
 by_cases hi:i<n
 ·have H:=ar.get (t:=t) (i:=i) o_;have z:=b6 (i:=i) o_;have W:t.cs.take (i+1)=t.cs.take i++[t.at i]:=by rw[c9,H];rfl
  simp[-eZ,hi,q,H,aa]
  by_cases f:t.at i∈t.cs.take i
  ·obtain⟨j,s,r⟩:=cb.1 f;rw[da]at s;rw[ej,ar.aP o_]at r;have Q:=SG o_ (j:=j) (k:=i) o_ o_ o_ r;simp[f,Q]
  ·have hI:=Su f;have I:=FI f;rw[<-W]at I;simp[-eZ,-mq,f,hI,I,z];exact rd (i+1) ⟨hi,fun j k w hk=>by
    by_cases T:k=i
    ·subst T;intro r;exact f (r▸b3 (i:=j) (by rw[eb,if_pos w];exact ar.get o_))
    ·exact E j k w o_⟩
 have R:i=n:=o_
 subst R;have inj:∀j k,j<i->k<i->t.at j=t.at k->j=k:=fun j k s hk r=>by
  rcases gj j k with h|h|h
  ·exact(E j k h hk r).elim
  ·exact h
  ·exact(E k j h s r.symm).elim
 simp[q,aa];refine lp (α:=Nat) (fun m=>⟨[(32,.p (.int .i64 m)),(31,.p (.int .i64 i)),(30,.p (.seq (t.cs.map cH))),(6,.p (.int .i64 i)),(1,.ptr 0 [])],[.box false (.p (bU t))]⟩) (fun m=>m<=i/\∀j,j<m->t.nH j i) (fun m=>i-m) 0 s_ ?_;rintro m ⟨g1,g2⟩;have U:¬i=0:=o_
 by_cases f:m<i
 ·have M:=ar.get (t:=t) (i:=m) o_;have z:=b6 (i:=m) o_;have V:t.nx m<i:=by rw[<-q];exact t.lY o_ m
  have N:=ar.get (t:=t) (i:=t.nx m) o_;have e1:((m:Int)+1).tmod (i:Int)=((t.nx m:Nat):Int):=by
   rw[ar.nx,q,bI,bv o_];rfl
  simp[f,q,M,N,z,e1,U,aa];refine⟨by repeat' first|rfl|apply am,?_⟩;refine lp (α:=Nat) (fun k=>⟨[(48,.p (.int .i64 k)),(47,.p (.int .i64 i)),(46,.p (.seq (t.cs.map cH))),(9,.ptr 2 []),(8,.ptr 1 []),(32,.p (.int .i64 m)),(31,.p (.int .i64 i)),(30,.p (.seq (t.cs.map cH))),(6,.p (.int .i64 i)),(1,.ptr 0 [])],[.box false (.p (bU t)),.box false (.p (cH (t.at m))),.box false (.p (cH (t.at (t.nx m))))]⟩) (fun k=>k<=i/\t.nH m k) (fun k=>i-k) 0 (by simp[ar.nH]) ?_;rintro k ⟨q1,D⟩
  by_cases hk:k<i
  ·have gk:=ar.get (t:=t) (i:=k) o_;have G:=b6 (i:=k) o_
   by_cases c1:t.at k=t.at m
   ·have:=inj _ _ hk f c1;subst this;simp[-jx,jx.eq_1,hk,gk,G,aa];exact rd (k+1) ⟨hk,fun j s=>by
     by_cases w:j=k
     ·intro h;exact(h w).elim
     ·exact D j o_⟩
   ·by_cases c2:t.at k=t.at (t.nx m)
    ·have:=inj _ _ hk V c2;have c3:¬t.at (t.nx m)=t.at m:=by rw[<-c2];exact c1
     simp[-jx,jx.eq_1,hk,gk,G,c2,c3,aa];exact rd (k+1) ⟨hk,fun j s=>by
      by_cases w:j=k
      ·intro _ h;exact(h o_).elim
      ·exact D j o_⟩
    ·have L:k≠m:=fun e=>c1 (by rw[e]);have nx:k≠t.nx m:=fun e=>c2 (by rw[e]);have P:lX (t.at m) (t.at (t.nx m)) (t.at k)=((t.at (t.nx m)).x-(t.at m).x)*((t.at k).y-(t.at m).y)-((t.at (t.nx m)).y-(t.at m).y)*((t.at k).x-(t.at m).x):=rfl;have X:=ar.fE F (i:=m) o_;have Y:=ar.fE F (i:=t.nx m) o_;have Z:=ar.fE F (i:=k) o_;have K:t.nH m (k+1)↔0<lX (t.at m) (t.at (t.nx m)) (t.at k):=⟨fun h=>h k o_ L nx,fun h j s u v=>by
      by_cases w:j=k
      ·subst w;exact h
      ·exact D j o_ u v⟩
     have J:¬0<lX (t.at m) (t.at (t.nx m)) (t.at k)->t.gv=false:=fun h=>by
      rw[ar.gv,decide_eq_false_iff_not];intro O;exact h (O m o_ k o_ L nx)
     rw[P]at K J;simp[-jx,jx.eq_1,hk,gk,G,c1,c2,aa];simp only[dV]at X Y Z;generalize t.at m=A at*;generalize t.at (t.nx m)=B at*;generalize t.at k=C at*;obtain⟨c,d⟩:=A;obtain⟨bx,g⟩:=B;obtain⟨l,o⟩:=C;dsimp only at*;have w1:bo.wrap (bx-c)=bx-c:=aQ _ o_ o_;have ab:bo.wrap (o-d)=o-d:=aQ _ o_ o_;have ac:bo.wrap (g-d)=g-d:=aQ _ o_ o_
     have ad:bo.wrap (l-c)=l-c:=aQ _ o_ o_;have ak:=xy (a:=bx-c) (b:=o-d) (A:=20000) (B:=20000) o_ o_ o_ o_;have al:=xy (a:=g-d) (b:=l-c) (A:=20000) (B:=20000) o_ o_ o_ o_;have ae:bo.wrap ((bx-c)*(o-d))=(bx-c)*(o-d):=aQ _ o_ o_;have af:bo.wrap ((g-d)*(l-c))=(g-d)*(l-c):=aQ _ o_ o_;have ag:bo.wrap ((bx-c)*(o-d)-(g-d)*(l-c))=(bx-c)*(o-d)-(g-d)*(l-c):=aQ _ o_ o_;simp[w1,ab,ac,ad,ae,af,ag]
     by_cases hc:(bx-c)*(o-d)-(g-d)*(l-c)<=0
     ·have:=J o_;simp[hc,this]
     ·simp[hc];exact rd (k+1) ⟨hk,K.2 o_⟩
  ·have:k=i:=by omega
   subst this;simp[z];exact rd (m+1) ⟨f,fun j s=>by
    by_cases S:j=m
    ·subst S;exact D
    ·exact g2 j o_⟩
 ·have:m=i:=by omega
  subst this;have:t.gv=true:=by
   rw[ar.gv,decide_eq_true_eq,q];exact g2
  simp[this]
noncomputable def fy(v:NV):PV:=.st 272 [eF v.x,eF v.y]
@[simp] theorem aPb(v:NV):aL (fy v)=.agg 272:=rfl
@[simp] theorem aNz(v:NV):bY (fy v)=[eF v.x,eF v.y]:=rfl
@[simp] theorem aMI:prog.cellsOf 272=8:=k_
theorem Bq(x y:NF):fy ⟨x,y⟩=.st 272 [eF x,eF y]:=rfl
noncomputable def uu(a b:NV):PV:=.st 321 [fy a,fy b]
@[simp] theorem aOQ(a b:NV):aL (uu a b)=.agg 321:=rfl
@[simp] theorem aNg(a b:NV):bY (uu a b)=[fy a,fy b]:=rfl
theorem Eo(p:fF)(c:b9 p.x=0)(d:b9 p.y=0)(a:nA p):aB prog 203 [fX p] (fy (.from p)):=by
 have a1:=ki p.x c a.1.1;have b:=ki p.y d a.2.1;refine aJ nf (i_ func203) mix (by simp[f203]) ?_;rw[NV.from,Bq];simp[f203,aa];refine e1 a1 ?_;simp[aa];refine e1 b ?_;simp[aa]
def cA(p:dS):NV:=⟨.int p.x,.int p.y⟩
theorem Fv(p:dS)(h:dV p):aB prog 343 [cH p] (fy (cA p)):=by
 simp only[dV]at h;have a1:=kj p.x o_ o_;have a:=kj p.y o_ o_;refine aJ nf (i_ func343) mix (by simp[f343]) ?_;rw[cA,Bq];simp[f343,aa];refine e1 a1 ?_;simp[aa];refine e1 a ?_;simp[aa]
theorem Bs(v w:NV)(a:bJ kQ v.q)(b:bJ kQ w.q):aB prog 264 [fy v,fy w] (fy (v.sub w)):=by
 have c:=qc v.x w.x (dF a.1) (dF b.1);have d:=qc v.y w.y (dF a.2) (dF b.2);refine aJ nf (i_ func264) mix (by simp[f264]) ?_;rw[NV.sub,Bq];simp[f264,aa];refine e2 c ?_;simp[aa];refine e2 d ?_;simp[aa]
theorem SH(v w:NV)(a:bJ kQ v.q)(b:bJ kQ w.q):aB prog 265 [fy v,fy w] (eF (v.dx w)):=by
 have c:=jQ v.x w.y (dF a.1) (dF b.2);have d:=jQ v.y w.x (dF a.2) (dF b.1);have e:=qc (v.x.mul w.y) (v.y.mul w.x) ((gC a.1 b.2).mono (by decide)) ((gC a.2 b.1).mono (by decide));refine aJ nf (i_ func265) mix (by simp[f265]) ?_;rw[NV.dx];simp[f265,aa];refine e2 c ?_;simp[aa];refine e2 d ?_;simp[aa];refine e2 e ?_;simp[aa]
theorem Z2(t:ar)(i:Nat)(hi:i<t.cs.length)(j:t.cs.length<=1000000)(g:∀p∈t.cs,dV p):aB prog 312 [bU t,.int .i64 i] (uu (cA (t.at i)) (cA (t.at (t.nx i)))):=by
 have a:=t.lY o_ i;have a1:=Fv (t.at i) (ar.fE g hi);have h:=Fv (t.at (t.nx i)) (ar.fE g a);have w1:=b6 (i:=i) o_;have e1:((i:Int)+1).tmod (t.cs.length:Int)=((t.nx i:Nat):Int):=by
  rw[ar.nx,bI,bv o_];rfl
 have f:¬t.cs.length=0:=o_
 have d:¬t.cs=[]:=by intro e;rw[e]at hi;simp at hi
 have b:=ar.get hi;have c:=ar.get a;refine aJ nf (i_ func312) mix (by simp[f312]) ?_;rw[uu];simp[f312,aa,w1,e1,f,d,b,c,hi,a];refine e1_ a1 ?_;simp[aa,w1,e1,f,d,b,c,hi,a];refine e1_ h ?_;simp[aa,w1,e1,f,d,b,c,hi,a]
theorem Z5(t:ar):aB prog 263 [bU t] (.func 311 [] [.cr (bU t)]):=by
 refine aJ nf (i_ func263) mix (by simp[f263]) ?_;simp[f263];show gu [.box false (.p (bU t))] 7 (.p (bU t)) (bU t);rw[xK];exact Wk.refl _
noncomputable def xI(t:ar)(i:Nat):List PV:=[.int .i64 i,uu (cA (t.at i)) (cA (t.at (t.nx i)))]
theorem Bi{t:ar}{i:Nat}(h:i<t.cs.length):((cv t.cs.length).map (xI t))[i]?=some (xI t i):=by
 rw[en,eq h];rfl
theorem aHP(t:ar)(g:t.cs.length<=1000000)(h:∀p∈t.cs,dV p):Stream prog 311 [] [.cr (bU t)] ((cv t.cs.length).map (xI t)):=by
 intro b k e H' hk a l d;rw[e9,ei]at hk d;refine fk nf (i_ func311) mix (by simp[f311]) ?_;simp[f311,aa];refine lp (α:=Nat) (fun i=>⟨[(7,.p (.int .i64 i)),(6,.p (.int .i64 t.cs.length)),(1,.p (.cr (bU t))),(0,.map b)],e i⟩) (fun i=>i<=k) (fun i=>k-i) 0 s_ ?_ (hr:=by simp;exact(a 0 o_).2) (hr2:=(a 0 o_).1);rintro i m
 by_cases hi:i<t.cs.length
 ·have f:=Z2 t i hi g h;have j:=b6 (i:=i) o_;simp[hi];refine c2 f ?_;simp
  by_cases c:i<k
  ·refine⟨e (i+1),_,l i _ c (Bi hi),?_⟩;simp[j];exact rd (i+1) c (hr:=by simp;exact(a (i+1) c).2) (hr2:=(a (i+1) c).1)
  ·have:i=k:=by omega
   subst this;rcases d with⟨e1,_⟩|⟨y,e1,e2⟩
   ·omega
   ·rw[Bi hi]at e1;injection e1 with e1
    subst e1;refine⟨H',_,e2,?_⟩;simp
 ·have:i=t.cs.length:=by omega
  subst this;rcases d with⟨e1,e2⟩|⟨y,e1,e2⟩
  ·have:t.cs.length=k:=by omega
   subst this;simp[e2]
  ·rw[fl (by simp;omega)]at e1;cases e1
noncomputable def xg(t:ar)(v:NV)(L:dK)(i:Nat):aj:=[.box false (.p (bU t)),.box false (.p (fy v)),.box false (.p (.int .i64 (t.kr v.q i))),.loop L]
theorem P7(t:ar)(v:NV)(l:t.cs.length<=1000000)(c:∀p∈t.cs,dV p)(g:bJ 3000 v.q):aB prog 204 [bU t,fy v] (.int .i64 (t.on v.q)):=by
 refine aJ nf (i_ func204) mix (by simp[f204]) ?_;simp[f204,aa];refine c1 (Z5 t) ?_;simp;refine rf (aHP t l c) rfl s_ (xg t v) t.cs.length s_ (fun L=>rfl) ?_ ?_ ?_
 ·intro L a i hi;refine⟨rfl,by simp[xg],fun _ hx=>?_⟩;simp[xg]at hx⊢;exact hx
 ·intro L a i x hi hx;rw[Bi hi]at hx;injection hx with hx
  subst hx;have b:=jX (ar.fE c hi);have h:=jX (ar.fE c (t.lY o_ i));have q1:bJ 29 ((cA (t.at (t.nx i))).sub (cA (t.at i))).q:=by rw[NV.fO];exact kg h b
  have m:bJ 3015 (v.sub (cA (t.at i))).q:=by rw[NV.fO];exact kg g b
  have a1:=Bs (cA (t.at (t.nx i))) (cA (t.at i)) (h.mono (by decide)) (b.mono (by decide));have j:=Bs v (cA (t.at i)) (g.mono (by decide)) (b.mono (by decide));have k:=SH ((cA (t.at (t.nx i))).sub (cA (t.at i))) (v.sub (cA (t.at i))) (q1.mono (by decide)) (m.mono (by decide));have e:=ud (((cA (t.at (t.nx i))).sub (cA (t.at i))).dx (v.sub (cA (t.at i))));have d:eU (((cA (t.at (t.nx i))).sub (cA (t.at i))).dx (v.sub (cA (t.at i)))).q=t.side i v.q:=by
   rw[NV.sP,NV.fO,NV.fO];rfl
  rw[eU]at d;rw[d]at e;have hs:=ar.xw t v.q i;rw[FV]at hs;refine sQ nf mix a rfl rfl k_ ?_;have f:=congrArg dK.env a;dsimp only at f;clear a d;generalize (cA (t.at (t.nx i))).sub (cA (t.at i))=W at*;generalize v.sub (cA (t.at i))=U at*;generalize W.dx U=C at*;simp[xg,xI,uu,aa];refine e2 a1 ?_;simp[aa];refine e2 j ?_;simp[aa];refine e2 k ?_;simp[aa];refine e1 e ?_;simp[aa];refine⟨by repeat' first|rfl|apply am,?_⟩;rw[<-hs];refine cR.og s_ s_ s_ s_ ?_;simp;exact xH f s_
 ·intro L a;refine .inl ⟨s_,?_⟩;simp[xg,ar.on]
theorem Fz(s:List Nat)(hs:ji s)(g:b9 s=0):aB prog 286 [.str s] (.int .i64 (fA (aS s))):=by
 have o:=gM g;have a1:=ki s g hs.1;have c:=ud ⟨aS s,false⟩;have f:=kj 1 (by decide) (by decide);have d:=nv ⟨aS s,false⟩ (.int 1) (o.mono (by decide)) ((show bL 1 (NF.int 1).q from⟨by decide,by decide⟩).mono (by decide));have e2:(if(⟨aS s,false⟩:NF).q<0 then(-1:Int)else if(⟨aS s,false⟩:NF).q=0 then 0 else 1)=eU (aS s):=rfl;have e4:dO (⟨aS s,false⟩:NF).q (NF.int 1).q=dO (aS s) 1:=rfl;rw[e2]at c;rw[e4]at d;have e:=fun b=>iR b 3;refine aJ nf (i_ func286) mix (by simp[f286]) ?_;rw[fA];clear e2 e4 o;generalize eU (aS s)=x at*;generalize dO (aS s) 1=y at*;generalize (⟨aS s,false⟩:NF)=v at*
 by_cases a:x<0
 ·simp[f286,aa];refine c1 a1 ?_;simp[aa];refine e1_ c ?_;simp[a,aa];refine e2_ (e true) ?_;simp[aU];omega
 ·by_cases b:0<y
  ·simp[f286,aa];refine c1 a1 ?_;simp[aa];refine e1_ c ?_;simp[a,aa];refine e1_ f ?_;simp[a,aa];refine e2_ d ?_;simp[a,b,aa];refine e2_ (e true) ?_;simp[aU];omega
  ·simp[f286,aa];refine c1 a1 ?_;simp[aa];refine e1_ c ?_;simp[a,aa];refine e1_ f ?_;simp[a,aa];refine e2_ d ?_;simp[a,b,aa];refine e2_ (e false) ?_;simp[aU];omega
def qH(p:cX):Prop:=qu p/\b9 p.a=0/\b9 p.b=0
theorem Z4(p o:cX)(q:qH p)(n:qH o):aB prog 285 [dZ p,dZ o] (.bool (gX o p)):=by
 obtain⟨⟨_,t,u⟩,k,l⟩:=q;obtain⟨⟨_,r,s⟩,i,j⟩:=n;have a1:=ki p.a k t.1;have d:=ki o.b j s.1;have c:=nv ⟨aS p.a,false⟩ ⟨aS o.b,false⟩ ((gM k).mono (by decide)) ((gM j).mono (by decide));have f:=ki o.a i r.1;have g:=ki p.b l u.1;have e:=nv ⟨aS o.a,false⟩ ⟨aS p.b,false⟩ ((gM i).mono (by decide)) ((gM l).mono (by decide));dsimp only at c e;refine aJ nf (i_ func285) mix (by simp[f285]) ?_;rw[gX];generalize dO (aS p.a) (aS o.b)=x at*;generalize dO (aS o.a) (aS p.b)=y at*;generalize (⟨aS p.a,false⟩:NF)=v1 at*;generalize (⟨aS p.b,false⟩:NF)=v2 at*;generalize (⟨aS o.a,false⟩:NF)=v3 at*;generalize (⟨aS o.b,false⟩:NF)=v4 at*
 by_cases c1:o.dP=p.dP
 case neg=>
  have m:¬p.dP=o.dP:=fun h=>c1 h.symm;simp[f285,aa,c1,m]
 by_cases c2:x<=0
 ·by_cases c3:y<=0
  ·simp[f285,aa,c1];refine e1_ a1 ?_;simp[aa,c1];refine e1_ d ?_;simp[aa,c1];refine e2_ c ?_;simp[aa,c1,c2];refine e1_ f ?_;simp[aa,c1,c2];refine e1_ g ?_;simp[aa,c1,c2];refine e2_ e ?_;simp[aa,c1,c2,c3]
  ·simp[f285,aa,c1];refine e1_ a1 ?_;simp[aa,c1];refine e1_ d ?_;simp[aa,c1];refine e2_ c ?_;simp[aa,c1,c2];refine e1_ f ?_;simp[aa,c1,c2];refine e1_ g ?_;simp[aa,c1,c2];refine e2_ e ?_;simp[aa,c1,c2,c3]
 ·simp[f285,aa,c1];refine e1_ a1 ?_;simp[aa,c1];refine e1_ d ?_;simp[aa,c1];refine e2_ c ?_;simp[aa,c1,c2]
theorem SF(p o:cX):cC prog 283 [.box false (.p (dZ p))] [.p (dZ o),.ptr 0 []] [.box false (.p (dZ p))] (.p (.bool (decide (o.name=p.name)))):=by
 refine fk nf (i_ func283) mix (by simp[f283]) ?_
 by_cases h:o.name=p.name
 ·simp[f283,aa,h];exact cR.og s_ s_ s_ s_ s_
 ·simp[f283,aa,h];exact cR.og s_ s_ s_ s_ s_
theorem SK(p:cX)(l:List cX)(h:l.length<=1000000):
 cC prog 135 [.box false (.p (dZ p))] [.p (.seq (l.map dZ)),.func 283 [] [.ptr 0 []]] [.box false (.p (dZ p))] (.p (.int .i64 (idxFrom (fun o=>decide (o.name=p.name)) l 0))):=by
 refine fk nf (i_ func135) mix (by simp[f135]) ?_;simp[f135];refine lp (α:=Nat) (fun i=>⟨[(8,.p (.int .i64 i)),(7,.p (.int .i64 l.length)),(1,.func 283 [] [.ptr 0 []]),(0,.p (.seq (l.map dZ)))],[.box false (.p (dZ p))]⟩) (fun i=>i<=l.length/\idxFrom (fun o=>decide (o.name=p.name)) l 0=idxFrom (fun o=>decide (o.name=p.name)) (l.drop i) i) (fun i=>l.length-i) 0 s_ ?_;rintro i ⟨k1,k2⟩;have a:=b6 (i:=i) o_
 by_cases hi:i<l.length
 ·rw[b4 hi,idxFrom]at k2;simp[hi];refine cf (SF p l[i]) [0] ?_
  by_cases hk:l[i].name=p.name
  ·simp[hk]at k2;simp[hk,k2,bc]
  ·simp[hk]at k2;simp[hk,a,bc];exact rd (i+1) ⟨hi,k2⟩
 ·have:i=l.length:=by omega
  subst this;simp[idxFrom]at k2;simp[k2]
theorem SB(p:cX)(l:List cX)(h:l.length<=1000000):
 cC prog 282 [.box false (.p (dZ p))] [.p (.seq (l.map dZ)),.func 283 [] [.ptr 0 []]] [.box false (.p (dZ p))] (.p (.bool (l.any (fun o=>decide (o.name=p.name))))):=by
 refine fk nf (i_ func282) mix (by simp[f282]) ?_;simp[f282];refine cf (SK p l h) [0] ?_;have:=oZ (fun o=>decide (o.name=p.name)) l 0;simp[bc,<-this]
theorem SE(p o:ch):cC prog 288 [.box false (.p (gQ p))] [.p (gQ o),.ptr 0 []] [.box false (.p (gQ p))] (.p (.bool (decide (o.name=p.name)))):=by
 refine fk nf (i_ func288) mix (by simp[f288]) ?_
 by_cases h:o.name=p.name
 ·simp[f288,aa,h];exact cR.og s_ s_ s_ s_ s_
 ·simp[f288,aa,h];exact cR.og s_ s_ s_ s_ s_
theorem Sq(p:ch)(l:List ch)(h:l.length<=1000000):
 cC prog 323 [.box false (.p (gQ p))] [.p (.seq (l.map gQ)),.func 288 [] [.ptr 0 []]] [.box false (.p (gQ p))] (.p (.int .i64 (idxFrom (fun o=>decide (o.name=p.name)) l 0))):=by
 refine fk nf (i_ func323) mix (by simp[f323]) ?_;simp[f323];refine lp (α:=Nat) (fun i=>⟨[(8,.p (.int .i64 i)),(7,.p (.int .i64 l.length)),(1,.func 288 [] [.ptr 0 []]),(0,.p (.seq (l.map gQ)))],[.box false (.p (gQ p))]⟩) (fun i=>i<=l.length/\idxFrom (fun o=>decide (o.name=p.name)) l 0=idxFrom (fun o=>decide (o.name=p.name)) (l.drop i) i) (fun i=>l.length-i) 0 s_ ?_;rintro i ⟨k1,k2⟩;have a:=b6 (i:=i) o_
 by_cases hi:i<l.length
 ·rw[b4 hi,idxFrom]at k2;simp[hi];refine cf (SE p l[i]) [0] ?_
  by_cases hk:l[i].name=p.name
  ·simp[hk]at k2;simp[hk,k2,bc]
  ·simp[hk]at k2;simp[hk,a,bc];exact rd (i+1) ⟨hi,k2⟩
 ·have:i=l.length:=by omega
  subst this;simp[idxFrom]at k2;simp[k2]
theorem SA(p:ch)(l:List ch)(h:l.length<=1000000):
 cC prog 287 [.box false (.p (gQ p))] [.p (.seq (l.map gQ)),.func 288 [] [.ptr 0 []]] [.box false (.p (gQ p))] (.p (.bool (l.any (fun o=>decide (o.name=p.name))))):=by
 refine fk nf (i_ func287) mix (by simp[f287]) ?_;simp[f287];refine cf (Sq p l h) [0] ?_;have:=oZ (fun o=>decide (o.name=p.name)) l 0;simp[bc,<-this]
theorem SD(p:cX)(c:qH p)(l:List cX)(h:l.length<=1000000)(b:∀o∈l,qH o):
 aB prog 135 [.seq (l.map dZ),.func 285 [dZ p] []] (.int .i64 (idxFrom (fun o=>gX o p) l 0)):=by
 refine aJ nf (i_ func135) mix (by simp[f135]) ?_;simp[f135];refine lp (α:=Nat) (fun i=>⟨[(8,.p (.int .i64 i)),(7,.p (.int .i64 l.length)),(1,.p (.func 285 [dZ p] [])),(0,.p (.seq (l.map dZ)))],[]⟩) (fun i=>i<=l.length/\idxFrom (fun o=>gX o p) l 0=idxFrom (fun o=>gX o p) (l.drop i) i) (fun i=>l.length-i) 0 s_ ?_;rintro i ⟨k1,k2⟩;have d:=b6 (i:=i) o_
 by_cases hi:i<l.length
 ·rw[b4 hi,idxFrom]at k2;have a:=Z4 p l[i] c (b _ (e7 hi));simp[hi];refine c2 a ?_;cases hk:gX l[i] p
  ·simp[hk]at k2;simp[d];exact rd (i+1) ⟨hi,k2⟩
  ·simp[hk]at k2;simp[k2]
 ·have:i=l.length:=by omega
  subst this;simp[idxFrom]at k2;simp[k2]
theorem Sm(p:cX)(b:qH p)(l:List cX)(h:l.length<=1000000)(a:∀o∈l,qH o):
 aB prog 282 [.seq (l.map dZ),.func 285 [dZ p] []] (.bool (l.any (fun o=>gX o p))):=by
 refine aJ nf (i_ func282) mix (by simp[f282]) ?_;simp[f282];refine c2 (SD p b l h a) ?_;have:=oZ (fun o=>gX o p) l 0;simp[<-this]
def lr(n:Nat)(c:List cX)(p:cX):Int:=bK [aU (!isName p.name) 8,aU (c.any fun o=>decide (o.name=p.name)) 9,aU (decide (p.dP<0\/(n:Int)<=p.dP)) 10,b9 p.a,b9 p.b]
def A0(c:List cX)(p:cX):Int:=bK [fA (aS p.a),fA (aS p.b),aU (decide (0<dO (aS p.a) (aS p.b))) 11,aU (c.any fun o=>gX o p) 17]
theorem Fp(q:Rat):fA q=0\/fA q=3:=by
 rw[fA];split
 ·exact .inr rfl
 ·exact .inl rfl
theorem Sz(n:Nat)(e:List cX)(p:cX):iA n e p=if lr n e p=0 then A0 e p else lr n e p:=by
 rw[iA,lr,A0];generalize b9 p.a=ca;generalize b9 p.b=i;have j:=Fp (aS p.a);have h:=Fp (aS p.b);generalize fA (aS p.a)=r at*;generalize fA (aS p.b)=s at*;generalize dO (aS p.a) (aS p.b)=y;generalize (e.any fun o=>gX o p)=m;generalize (e.any fun o=>decide (o.name=p.name))=a;have k:max (0:Int) 3=3:=rfl;have l:max (3:Int) 0=3:=rfl;cases q:isName p.name
 ·simp[bK,aU]
 cases a
 case true=>simp[bK,aU]
 by_cases c:p.dP<0\/(n:Int)<=p.dP
 ·simp[bK,aU,c]
 by_cases d:ca=0
 case neg=>simp[bK,aU,c,d]
 by_cases f:i=0
 case neg=>simp[bK,aU,c,d,f]
 rcases j with rfl|rfl
 ·rcases h with rfl|rfl
  ·by_cases g:0<y
   ·simp[bK,aU,c,d,f,g]
   ·cases m<;>simp[bK,aU,c,d,f,g]
  ·simp[bK,aU,c,d,f,k]
 ·rcases h with rfl|rfl
  ·simp[bK,aU,c,d,f,l]
  ·simp[bK,aU,c,d,f]
theorem Ss{n:Nat}{bef:List cX}{p:cX}(h:lr n bef p=0):b9 p.a=0/\b9 p.b=0:=by
 rw[lr,mV]at h;exact⟨h _ s_,h _ s_⟩
theorem Sl(t:ar)(p:cX)(d:List cX)(N:t.cs.length<=1000000)(I:qu p)(m:d.length<=1000000)(H:∀o∈d,qH o):
 aB prog 225 [bU t,dZ p,.seq (d.map dZ)] (.int .i64 (iA t.cs.length d p)):=by
 obtain⟨E,j,k⟩:=I;have k1:=SB p d m;have k2:=Bl p.name E.1;have k3:=iR (!isName p.name) 8;have k4:=iR (d.any fun o=>decide (o.name=p.name)) 9;have k5:=fun b=>iR b 10;have k6:=Ab p.a j.1 j.2;have k7:=Ab p.b k.1 k.2;have k8:=qE [aU (!isName p.name) 8,aU (d.any fun o=>decide (o.name=p.name)) 9,aU (decide (p.dP<0\/(t.cs.length:Int)<=p.dP)) 10,b9 p.a,b9 p.b] s_;have g:=Ss (n:=t.cs.length) (bef:=d) (p:=p);rw[Sz];have s:=fun h:lr t.cs.length d p=0=>Sm p ⟨⟨E,j,k⟩,(g h).1,(g h).2⟩ d m H;have u:=fun h:lr t.cs.length d p=0=>Fz p.a j (g h).1;have v:=fun h:lr t.cs.length d p=0=>Fz p.b k (g h).2;have w:=fun h:lr t.cs.length d p=0=>ki p.a (g h).1 j.1;have x:=fun h:lr t.cs.length d p=0=>ki p.b (g h).2 k.1;have q:=fun h:lr t.cs.length d p=0=>nv ⟨aS p.a,false⟩ ⟨aS p.b,false⟩ ((gM (g h).1).mono (by decide)) ((gM (g h).2).mono (by decide));dsimp only at q;have D:=iR (decide (0<dO (aS p.a) (aS p.b))) 11;have z:=iR (d.any fun o=>gX o p) 17;have i:=qE [fA (aS p.a),fA (aS p.b),aU (decide (0<dO (aS p.a) (aS p.b))) 11,aU (d.any fun o=>gX o p) 17] s_;have B:lr t.cs.length d p=bK [aU (!isName p.name) 8,aU (d.any fun o=>decide (o.name=p.name)) 9,aU (decide (p.dP<0\/(t.cs.length:Int)<=p.dP)) 10,b9 p.a,b9 p.b]:=rfl;have C:A0 d p=bK [fA (aS p.a),fA (aS p.b),aU (decide (0<dO (aS p.a) (aS p.b))) 11,aU (d.any fun o=>gX o p) 17]:=rfl;rw[<-B]at k8;rw[<-C]at i;clear B C g;generalize lr t.cs.length d p=l at*;generalize A0 d p=M at*;generalize b9 p.a=J at*;generalize b9 p.b=K at*;generalize fA (aS p.a)=V at*;generalize fA (aS p.b)=W at*;generalize dO (aS p.a) (aS p.b)=A at*;generalize (d.any fun o=>decide (o.name=p.name))=F at*;generalize (d.any fun o=>gX o p)=L at*;generalize isName p.name=G at*;generalize (⟨aS p.a,false⟩:NF)=v1 at*;generalize (⟨aS p.b,false⟩:NF)=v2 at*;refine aJ nf (i_ func225) mix (by simp[f225]) ?_;have r:∀b:Bool,decide (p.dP<0\/(t.cs.length:Int)<=p.dP)=b->aB prog 201 [.bool b,.int .i64 10] (.int .i64 (aU b 10))/\aB prog 200 [.seq [.int .i64 (aU (!G) 8),.int .i64 (aU F 9),.int .i64 (aU b 10),.int .i64 J,.int .i64 K]] (.int .i64 l):=fun b m=>by
  rw[m]at k8;exact⟨k5 b,by simpa using k8⟩
 simp at i;have y:aB prog 201 [.bool (decide (0<A)),.int .i64 11] (.int .i64 (aU (decide (0<A)) 11)):=D;clear k5 k8 D;generalize O:aU (!G) 8=w1 at*;generalize P:aU F 9=S at*;generalize Q:aU (decide (0<A)) 11=T at*;generalize R:aU L 17=U at*;simp[f225,-bu,aa];rw[bu];simp[-bu,aa];rw[bu];simp[-bu,aa];refine cf k1 [1] ?_;simp[-bu,aa,bc,sig]
 by_cases e:p.dP<0
 ·obtain⟨f1,f2⟩:=r true (by simp[e]);rw[bu,bu];simp[-bu,aa];refine e1_ k2 ?_;simp[-bu,aa];refine e2_ k3 ?_;simp[-bu,aa];refine e2_ k4 ?_;simp[-bu,aa,e];refine e2_ f1 ?_;simp[-bu,aa,e];refine e1_ k6 ?_;simp[-bu,aa,e];refine e1_ k7 ?_;simp[-bu,aa,e];refine ep f2 (by simp;first|exact⟨rfl,rfl⟩|rfl) (by simp;first|exact⟨rfl,rfl⟩|rfl) ?_;simp[-bu,aa,e];refine⟨by repeat' first|rfl|apply am,?_⟩
  by_cases c:l=0
  case neg=>simp[c,aa]
  simp[c,aa];refine c2_ (s c) ?_;simp[aa];refine e1_ (u c) ?_;simp[aa];refine e1_ (v c) ?_;simp[aa];refine e1_ (w c) ?_;simp[aa];refine e1_ (x c) ?_;simp[aa];refine e2_ (q c) ?_;simp[aa];refine e2_ y ?_;simp[aa];refine e2_ z ?_;simp[aa];refine ep i (by simp;first|exact⟨rfl,rfl⟩|rfl) (by simp;first|exact⟨rfl,rfl⟩|rfl) ?_;simp[aa];exact⟨by repeat' first|rfl|apply am,fun h=>(h c).elim⟩
 by_cases f:(t.cs.length:Int)<=p.dP
 ·obtain⟨f1,f2⟩:=r true (by simp[e,f]);rw[bu,bu];simp[-bu,aa];refine e1_ k2 ?_;simp[-bu,aa];refine e2_ k3 ?_;simp[-bu,aa];refine e2_ k4 ?_;simp[-bu,aa,e,f];refine e2_ f1 ?_;simp[-bu,aa,e,f];refine e1_ k6 ?_;simp[-bu,aa,e,f];refine e1_ k7 ?_;simp[-bu,aa,e,f];refine ep f2 (by simp;first|exact⟨rfl,rfl⟩|rfl) (by simp;first|exact⟨rfl,rfl⟩|rfl) ?_;simp[-bu,aa,e,f];refine⟨by repeat' first|rfl|apply am,?_⟩
  by_cases c:l=0
  case neg=>simp[c,aa]
  simp[c,aa];refine c2_ (s c) ?_;simp[aa];refine e1_ (u c) ?_;simp[aa];refine e1_ (v c) ?_;simp[aa];refine e1_ (w c) ?_;simp[aa];refine e1_ (x c) ?_;simp[aa];refine e2_ (q c) ?_;simp[aa];refine e2_ y ?_;simp[aa];refine e2_ z ?_;simp[aa];refine ep i (by simp;first|exact⟨rfl,rfl⟩|rfl) (by simp;first|exact⟨rfl,rfl⟩|rfl) ?_;simp[aa];exact⟨by repeat' first|rfl|apply am,fun h=>(h c).elim⟩
 ·obtain⟨f1,f2⟩:=r false (by simp[e,f]);rw[bu,bu];simp[-bu,aa];refine e1_ k2 ?_;simp[-bu,aa];refine e2_ k3 ?_;simp[-bu,aa];refine e2_ k4 ?_;simp[-bu,aa,e,f];refine e2_ f1 ?_;simp[-bu,aa,e,f];refine e1_ k6 ?_;simp[-bu,aa,e,f];refine e1_ k7 ?_;simp[-bu,aa,e,f];refine ep f2 (by simp;first|exact⟨rfl,rfl⟩|rfl) (by simp;first|exact⟨rfl,rfl⟩|rfl) ?_;simp[-bu,aa,e,f];refine⟨by repeat' first|rfl|apply am,?_⟩
  by_cases c:l=0
  case neg=>simp[c,aa]
  simp[c,aa];refine c2_ (s c) ?_;simp[aa];refine e1_ (u c) ?_;simp[aa];refine e1_ (v c) ?_;simp[aa];refine e1_ (w c) ?_;simp[aa];refine e1_ (x c) ?_;simp[aa];refine e2_ (q c) ?_;simp[aa];refine e2_ y ?_;simp[aa];refine e2_ z ?_;simp[aa];refine ep i (by simp;first|exact⟨rfl,rfl⟩|rfl) (by simp;first|exact⟨rfl,rfl⟩|rfl) ?_;simp[aa];exact⟨by repeat' first|rfl|apply am,fun h=>(h c).elim⟩
def jj(a:List ch)(s:ch):Int:=bK [aU (!isName s.name) 8,aU (a.any fun o=>decide (o.name=s.name)) 9,ez s.pt]
theorem Sx(t:ar)(b:List ch)(s:ch):jl t b s=if jj b s=0 then aU (decide (t.on (vP s.pt)<0)) 16 else jj b s:=by
 rw[jl,jj];generalize ez s.pt=c;generalize (b.any fun o=>decide (o.name=s.name))=a;cases e:isName s.name
 ·simp[bK,aU]
 cases a
 case true=>simp[bK,aU]
 by_cases d:c=0
 case neg=>simp[bK,aU,d]
 simp[bK,aU,d]
theorem FF{bef:List ch}{s:ch}(h:jj bef s=0):ez s.pt=0:=by
 rw[jj,mV]at h;exact h _ s_
theorem SC(t:ar)(s:ch)(a:List ch)(l:t.cs.length<=1000000)(m:∀p∈t.cs,dV p)(hs:nB s)(k:a.length<=1000000):
 aB prog 227 [bU t,gQ s,.seq (a.map gQ)] (.int .i64 (jl t a s)):=by
 obtain⟨u,g⟩:=hs;have k1:=SA s a k;have k2:=Bl s.name u.1;have k3:=iR (!isName s.name) 8;have k4:=iR (a.any fun o=>decide (o.name=s.name)) 9;have k6:=u7 s.pt g;have k8:=qE [aU (!isName s.name) 8,aU (a.any fun o=>decide (o.name=s.name)) 9,ez s.pt] s_;have c:=FF (bef:=a) (s:=s);rw[Sx];have n:=fun h:jj a s=0=>Eo s.pt (jr (c h)).1 (jr (c h)).2 g;have f:=fun h:jj a s=0=>P7 t (.from s.pt) l m (BO ⟨(gM (jr (c h)).1).mono (by decide),(gM (jr (c h)).2).mono (by decide)⟩);have q:=iR (decide (t.on (vP s.pt)<0)) 16;rw[iW]at f;have e:jj a s=bK [aU (!isName s.name) 8,aU (a.any fun o=>decide (o.name=s.name)) 9,ez s.pt]:=rfl;rw[<-e]at k8;clear e c;generalize jj a s=d at*;generalize t.on (vP s.pt)=y at*;generalize ez s.pt=v at*;generalize (a.any fun o=>decide (o.name=s.name))=i at*;generalize isName s.name=j at*;generalize NV.from s.pt=v1 at*;refine aJ nf (i_ func227) mix (by simp[f227]) ?_;have r:aB prog 200 [.seq [.int .i64 (aU (!j) 8),.int .i64 (aU i 9),.int .i64 v]] (.int .i64 d):=by simpa using k8
 clear k8;generalize w:aU (!j) 8=w1 at*;generalize x:aU i 9=A at*;generalize z:aU (decide (y<0)) 16=B at*;simp[f227,aa];refine cf k1 [1] ?_;simp[aa,bc,sig];refine e1_ k2 ?_;simp[aa];refine e2_ k3 ?_;simp[aa];refine e2_ k4 ?_;simp[aa];refine e1_ k6 ?_;simp[aa];refine ep r (by simp;first|exact⟨rfl,rfl⟩|rfl) (by simp;first|exact⟨rfl,rfl⟩|rfl) ?_;simp[aa];refine⟨by repeat' first|rfl|apply am,?_⟩
 by_cases b:d=0
 case neg=>simp[b,aa]
 simp[b,aa];refine e1_ (n b) ?_;simp[aa];refine e2_ (f b) ?_;simp[aa];refine e2_ q ?_;simp[aa];exact fun h=>(h b).elim
def lF{α:Type}(b:Nat)(a:List α->α->Int)(l:List α):Int:=if b<l.length then 5 else jH a l
theorem zA{α:Type}{n:Nat}{f:α->PV}(h:∀a,aa (.p (f a))≠.bad/\bG prog (aa (.p (f a)))=n)(l:List α):fa prog n (l.map (AV.p∘f)):=vp.2 fun v b=>by
 obtain⟨a,_,rfl⟩:=dq.1 b;exact h a
theorem KB(l:List cX):fa prog 4 (l.map (AV.p∘dZ)):=zA (fun r=>⟨by simp[aa],by simp[aa]⟩) l
theorem KC(l:List ch):fa prog 3 (l.map (AV.p∘gQ)):=zA (fun r=>⟨by simp[aa],by simp[aa]⟩) l
theorem SN(t:ar)(a:Nat)(h:t.cs.length<=1000000)(m:t.ba.length<=1000000)(c:∀p∈t.ba,qu p):
 aB prog 224 [.seq (t.ba.map dZ),.int .i64 a,.func 225 [bU t] []] (.int .i64 (lF a (iA t.cs.length) t.ba)):=by
 refine aJ nf (i_ func224) mix (by simp[f224]) ?_;rw[lF]
 by_cases c1:a<t.ba.length
 ·have cI:(a:Int)<t.ba.length:=by omega
  rw[if_pos c1];simp[f224,cI]
 have d:¬(a:Int)<t.ba.length:=o_
 rw[if_neg c1];simp[f224,d];refine lp (α:=Nat) (fun i=>⟨[(16,.p (.int .i64 i)),(15,.p (.int .i64 t.ba.length)),(14,.p (.seq (t.ba.map dZ))),(0,.p (.seq (t.ba.map dZ))),(2,.p (.func 225 [bU t] []))],[]⟩) (fun i=>i<=t.ba.length/\∀j,j<i->fU (iA t.cs.length) t.ba j=0) (fun i=>t.ba.length-i) 0 s_ ?_;rintro i ⟨k1,k2⟩
 by_cases hk:i<t.ba.length
 ·have gk:=ar.jC hk;have l:=b6 (i:=i) o_;have b:=Sl t (t.pk i) (t.ba.take i) h (c _ (b3 gk)) (by rw[da];omega) (fun o k=>by
   obtain⟨j,f,rfl⟩:=cb.1 k;rw[da]at f;rw[ej];have:=k2 j o_;have g:=ar.jC (t:=t) (i:=j) o_;rw[fU,g]at this;rw[ar.Rv o_];exact⟨c _ (b3 g),Bk this⟩)
  rw[ew]at b
  by_cases he:iA t.cs.length (t.ba.take i) (t.pk i)=0
  ·rw[he]at b;have:=sS k2 gk he;simp[hk,gk,aa];refine⟨⟨k1,KB _⟩,?_⟩;refine e3_ b ?_;simp[l,aa];exact rd (i+1) ⟨hk,this⟩
  ·have e:=sT k2 gk he;rw[e];simp[hk,gk,aa];refine⟨⟨k1,KB _⟩,?_⟩;refine e3_ b ?_;simp[he,aa]
 ·have:i=t.ba.length:=by omega
  subst this;rw[mM.2 k2];simp
theorem SM(t:ar)(a:Nat)(e:t.cs.length<=1000000)(f:∀p∈t.cs,dV p)(k:t.ak.length<=1000000)(g:∀p∈t.ak,nB p):
 aB prog 226 [.seq (t.ak.map gQ),.int .i64 a,.func 227 [bU t] []] (.int .i64 (lF a (jl t) t.ak)):=by
 refine aJ nf (i_ func226) mix (by simp[f226]) ?_;rw[lF]
 by_cases c1:a<t.ak.length
 ·have cI:(a:Int)<t.ak.length:=by omega
  rw[if_pos c1];simp[f226,cI]
 have c:¬(a:Int)<t.ak.length:=o_
 rw[if_neg c1];simp[f226,c];refine lp (α:=Nat) (fun i=>⟨[(16,.p (.int .i64 i)),(15,.p (.int .i64 t.ak.length)),(14,.p (.seq (t.ak.map gQ))),(0,.p (.seq (t.ak.map gQ))),(2,.p (.func 227 [bU t] []))],[]⟩) (fun i=>i<=t.ak.length/\∀j,j<i->fU (jl t) t.ak j=0) (fun i=>t.ak.length-i) 0 s_ ?_;rintro i ⟨k1,k2⟩
 by_cases hk:i<t.ak.length
 ·have gk:=ar.dU hk;have h:=b6 (i:=i) o_;have b:=SC t (t.sp i) (t.ak.take i) e f (g _ (b3 gk)) (by rw[da];omega);rw[ew]at b
  by_cases he:jl t (t.ak.take i) (t.sp i)=0
  ·rw[he]at b;have:=sS k2 gk he;simp[hk,gk,aa];refine⟨⟨k1,KC _⟩,?_⟩;refine e3_ b ?_;simp[h,aa];exact rd (i+1) ⟨hk,this⟩
  ·have d:=sT k2 gk he;rw[d];simp[hk,gk,aa];refine⟨⟨k1,KC _⟩,?_⟩;refine e3_ b ?_;simp[he,aa]
 ·have:i=t.ak.length:=by omega
  subst this;rw[mM.2 k2];simp
def mK(t:ar):Int:=bK [aU (decide ((t.cs.length:Int)<3)) 2,aU (decide (12<(t.cs.length:Int))) 5,aU (t.cs.any fR) 3]
def qG(t:ar):Int:=bK [aU (!t.gv) 15,aU (decide (t.aR<1\/1000<t.aR)) 3,lF 12 (iA t.cs.length) t.ba]
theorem Ft{t:ar}(h:mK t=0):3<=t.cs.length/\t.cs.length<=12/\∀p∈t.cs,dV p:=by
 rw[mK,mV]at h;have b:=h (aU (decide ((t.cs.length:Int)<3)) 2) s_;have d:=h (aU (decide (12<(t.cs.length:Int))) 5) s_;have a:=h (aU (t.cs.any fR) 3) s_;refine⟨?_,?_,fun p e=>FC ?_⟩
 ·by_cases c:(t.cs.length:Int)<3
  ·simp[aU,c]at b
  ·omega
 ·by_cases c:12<(t.cs.length:Int)
  ·simp[aU,c]at d
  ·omega
 ·cases hf:fR p
  ·rfl
  ·have:t.cs.any fR=true:=ck.2 ⟨p,e,hf⟩;rw[this]at a;simp[aU]at a
theorem FB(t:ar):gz t=if mK t=0 then(if qG t=0 then lF 256 (jl t) t.ak else qG t)else mK t:=by
 rw[gz,mK,qG,lF,lF]
 by_cases c1:t.cs.length<3
 ·have:(t.cs.length:Int)<3:=by omega
  simp[bK,aU,c1,this]
 have b:¬(t.cs.length:Int)<3:=o_
 by_cases c2:12<t.cs.length
 ·have:(12:Int)<t.cs.length:=by omega
  simp[bK,aU,c1,c2,b,this]
 have c:¬(12:Int)<t.cs.length:=o_
 generalize t.cs.any fR=a;cases a
 case true=>simp[bK,aU,c1,c2,b,c]
 cases t.gv
 ·simp[bK,aU,c1,c2,b,c]
 by_cases c3:t.aR<1\/1000<t.aR
 ·simp[bK,aU,c1,c2,b,c,c3]
 by_cases c4:12<t.ba.length
 ·simp[bK,aU,c1,c2,b,c,c3,c4]
 generalize jH (iA t.cs.length) t.ba=e
 by_cases c5:e=0
 ·simp[bK,aU,c1,c2,b,c,c3,c4,c5]
 ·simp[bK,aU,c1,c2,b,c,c3,c4,c5]
theorem So(t:ar)(w:iB t):aB prog 124 [bU t] (.int .i64 (gz t)):=by
 obtain⟨k,A,B,u,v⟩:=w;have k1:=iR (decide ((t.cs.length:Int)<3)) 2;have k2:=iR (decide (12<(t.cs.length:Int))) 5;have k3:=Si t.cs k;have k4:=iR (t.cs.any fR) 3;have k5:=qE [aU (decide ((t.cs.length:Int)<3)) 2,aU (decide (12<(t.cs.length:Int))) 5,aU (t.cs.any fR) 3] s_;have z1:=Ft (t:=t);rw[FB];have x:=fun h:mK t=0=>SO t (z1 h).1 k (z1 h).2.2;have y:=iR (!t.gv) 15;have r:=fun b=>iR b 3;have m:=SN t 12 k A u;have j:=qE [aU (!t.gv) 15,aU (decide (t.aR<1\/1000<t.aR)) 3,lF 12 (iA t.cs.length) t.ba] s_;have n:=fun h:mK t=0=>SM t 256 k (z1 h).2.2 B v;have p:mK t=bK [aU (decide ((t.cs.length:Int)<3)) 2,aU (decide (12<(t.cs.length:Int))) 5,aU (t.cs.any fR) 3]:=rfl;have q:qG t=bK [aU (!t.gv) 15,aU (decide (t.aR<1\/1000<t.aR)) 3,lF 12 (iA t.cs.length) t.ba]:=rfl;rw[<-p]at k5;rw[<-q]at j;clear p q z1;generalize mK t=o at*;generalize qG t=i at*;generalize lF 12 (iA t.cs.length) t.ba=F at*;generalize lF 256 (jl t) t.ak=M at*;generalize t.cs.any fR=G at*;generalize t.gv=H at*;generalize I:aU (decide ((t.cs.length:Int)<3)) 2=w1 at*;generalize J:aU (decide (12<(t.cs.length:Int))) 5=C at*;generalize K:aU G 3=D at*;generalize L:aU (!H) 15=E at*;have l:∀b:Bool,decide (t.aR<1\/1000<t.aR)=b->aB prog 201 [.bool b,.int .i64 3] (.int .i64 (aU b 3))/\aB prog 200 [.seq [.int .i64 E,.int .i64 (aU b 3),.int .i64 F]] (.int .i64 i):=fun b s=>by
  rw[s]at j;exact⟨r b,by simpa using j⟩
 have z:aB prog 200 [.seq [.int .i64 w1,.int .i64 C,.int .i64 D]] (.int .i64 o):=by simpa using k5
 clear j r k5;refine aJ nf (i_ func124) mix (by simp[f124]) ?_;simp[f124,aa];refine e2_ k1 ?_;simp[aa];refine e2_ k2 ?_;simp[aa];refine e2_ k3 ?_;simp[aa];refine e2_ k4 ?_;simp[aa];refine ep z (by simp;first|exact⟨rfl,rfl⟩|rfl) (by simp;first|exact⟨rfl,rfl⟩|rfl) ?_;simp[aa];refine⟨by repeat' first|rfl|apply am,?_⟩
 by_cases a:o=0
 case neg=>simp[a,aa]
 simp[a,aa];refine e1_ (x a) ?_;simp[aa];refine e2_ y ?_;simp[aa]
 by_cases c:t.aR<1
 ·have d:¬1<=t.aR:=by omega
  obtain⟨f1,f2⟩:=l true (by simp[c]);simp[c,d,aa];refine e2_ f1 ?_;simp[c,d,aa];refine e3_ m ?_;simp[c,d,aa];refine ep f2 (by simp;first|exact⟨rfl,rfl⟩|rfl) (by simp;first|exact⟨rfl,rfl⟩|rfl) ?_;simp[c,d,aa];refine⟨by repeat' first|rfl|apply am,?_⟩
  by_cases e:i=0
  case neg=>simp[a,e,aa]
  simp[a,e,aa];refine c3_ (n a) ?_;simp[a,e,aa]
 have d:1<=t.aR:=o_
 by_cases f:1000<t.aR
 ·have g:¬t.aR<=1000:=by omega
  obtain⟨f1,f2⟩:=l true (by simp[c,f]);simp[c,d,f,g,aa];refine e2_ f1 ?_;simp[c,d,f,g,aa];refine e3_ m ?_;simp[c,d,f,g,aa];refine ep f2 (by simp;first|exact⟨rfl,rfl⟩|rfl) (by simp;first|exact⟨rfl,rfl⟩|rfl) ?_;simp[c,d,f,g,aa];refine⟨by repeat' first|rfl|apply am,?_⟩
  by_cases e:i=0
  case neg=>simp[a,e,aa]
  simp[a,e,aa];refine c3_ (n a) ?_;simp[a,e,aa]
 ·have g:t.aR<=1000:=by omega
  obtain⟨f1,f2⟩:=l false (by simp[c,f]);simp[c,d,f,g,aa];refine e2_ f1 ?_;simp[c,d,f,g,aa];refine e3_ m ?_;simp[c,d,f,g,aa];refine ep f2 (by simp;first|exact⟨rfl,rfl⟩|rfl) (by simp;first|exact⟨rfl,rfl⟩|rfl) ?_;simp[c,d,f,g,aa];refine⟨by repeat' first|rfl|apply am,?_⟩
  by_cases e:i=0
  case neg=>simp[a,e,aa]
  simp[a,e,aa];refine c3_ (n a) ?_;simp[a,e,aa]
noncomputable def wX(i:Nat)(a w:NV):PV:=.st 157 [.int .i64 i,bP a,bP w]
@[simp] theorem aOP(i:Nat)(a w:NV):aL (wX i a w)=.agg 157:=rfl
@[simp] theorem aNf(i:Nat)(a w:NV):bY (wX i a w)=[.int .i64 i,bP a,bP w]:=rfl
def ar.eO(t:ar)(i:Nat):NV:=(cA (t.at (t.nx i))).sub (cA (t.at i))
theorem ar.xF(t:ar)(i:Nat):(t.eO i).q=t.uO i:=by rw[ar.eO,NV.fO];rfl
theorem xE(p:dS)(h:dV p):aB prog 191 [cH p] (bP (cA p)):=by
 simp only[dV]at h;have a1:=kj p.x o_ o_;have a:=kj p.y o_ o_;refine aJ nf (i_ func191) mix (by simp[f191]) ?_;rw[cA,oG];simp[f191,aa];refine e1 a1 ?_;simp[aa];refine e1 a ?_;simp[aa]
theorem F4(t:ar):aB prog 151 [bU t] (.func 241 [] [.cr (bU t)]):=by
 refine aJ nf (i_ func151) mix (by simp[f151]) ?_;simp[f151];show gu [.box false (.p (bU t))] 7 (.p (bU t)) (bU t);rw[xK];exact Wk.refl _
noncomputable def nG(t:ar)(i:Nat):List PV:=[wX i (cA (t.at i)) (t.eO i)]
def iQ(t:ar)(i:Nat):aj:=[.box false (.p (cH (t.at i))),.box false (.p (cH (t.at (t.nx i))))]
theorem sR{t:ar}{i:Nat}(h:i<t.cs.length):((cv t.cs.length).map (nG t))[i]?=some (nG t i):=by
 rw[en,eq h];rfl
theorem FG(t:ar)(G:t.cs.length<=1000000)(d:∀p∈t.cs,dV p):F6 prog 241 [] [.cr (bU t)] ((cv t.cs.length).map (nG t)) (iQ t):=by
 intro b k f F H' hk a C h;rw[e9,ei]at hk h;refine fk nf (i_ func241) mix (by simp[f241]) ?_;simp[f241,aa];refine lp (α:=Nat) (fun i=>⟨[(9,.p (.int .i64 i)),(8,.p (.int .i64 t.cs.length)),(7,.p (.seq (t.cs.map cH))),(1,.p (.cr (bU t))),(0,.map b)],f i⟩) (fun i=>i<=k) (fun i=>k-i) 0 s_ ?_ (hr:=by simp;exact(a 0 o_).2) (hr2:=(a 0 o_).1);rintro i z
 by_cases hi:i<t.cs.length
 ·have n:=b6 (i:=i) o_;have j:=t.lY o_ i;have w:=ar.get hi;have x:=ar.get j;have e1:((i:Int)+1).tmod (t.cs.length:Int)=((t.nx i:Nat):Int):=by
   rw[ar.nx,bI,bv o_];rfl
  have B:¬t.cs.length=0:=o_
  have A:¬t.cs=[]:=by intro e;rw[e]at hi;simp at hi
  have D:=jX (ar.fE d hi);have E:=jX (ar.fE d j);have a1:=xE (t.at i) (ar.fE d hi);have q:=xE (t.at (t.nx i)) (ar.fE d j);have l:=qh (cA (t.at (t.nx i))) (cA (t.at i)) (E.mono (by decide)) (D.mono (by decide));have r:(cA (t.at (t.nx i))).sub (cA (t.at i))=t.eO i:=rfl;rw[r]at l;simp[hi,n,e1,B,A,w,x,aa];refine⟨by repeat' first|rfl|apply am,?_⟩;refine e1_ a1 ?_;simp[aa];refine e1_ q ?_;simp[aa];refine e1_ a1 ?_;simp[aa];refine e2_ l ?_;simp[aa];have m:dE (f i++iQ t i) (f i++iQ t i):=dE.app (a i z).1 (by simp[iQ])
  by_cases c:i<k
  ·obtain⟨g1,g2,g3,g4,g5⟩:=C i _ c (sR hi);refine yk g1 rfl g2 m g3 (by rfl) (by rfl) fun s g=>?_;simp[g,n];exact rd (i+1) c (hn:=g4) (hh:=g5) (hr:=by simp;exact(a (i+1) c).2) (hr2:=(a (i+1) c).1)
  ·have:i=k:=by omega
   subst this;rcases h with⟨e1,_⟩|⟨y,o,e1,e2,e3,e4,e5,u,v⟩
   ·omega
   ·rw[sR hi]at e1;injection e1 with e1
    subst e1;refine yk e2 rfl e3 m e4 (by rfl) (by rfl) fun s g=>?_;simp[g];exact .inr (cR.og e5 trivial u trivial v)
 ·have:i=t.cs.length:=by omega
  subst this;rcases h with⟨e1,e2⟩|⟨y,o,e1,e2⟩
  ·have:t.cs.length=k:=by omega
   subst this;simp[e2]
  ·rw[fl (by simp;omega)]at e1;cases e1
theorem xC{t:ar}{v:NV}{i:Nat}(c:∀p∈t.cs,dV p)(e:bJ 3000 v.q)(hi:i<t.cs.length):
 aB prog 118 [bP v,bP (cA (t.at i))] (bP (v.sub (cA (t.at i))))/\aB prog 154 [bP (t.eO i),bP (v.sub (cA (t.at i)))] (eF ((t.eO i).dx (v.sub (cA (t.at i)))))/\
 aB prog 188 [eF ((t.eO i).dx (v.sub (cA (t.at i))))] (.int .i64 (t.side i v.q)):=by
 have a:=jX (ar.fE c hi);have f:=jX (ar.fE c (t.lY o_ i));have q1:bJ 29 (t.eO i).q:=by rw[ar.eO,NV.fO];exact kg f a
 have g:bJ 3015 (v.sub (cA (t.at i))).q:=by rw[NV.fO];exact kg e a
 refine⟨qh v (cA (t.at i)) (e.mono (by decide)) (a.mono (by decide)),Fx (t.eO i) (v.sub (cA (t.at i))) (q1.mono (by decide)) (g.mono (by decide)),?_⟩;have b:=ud ((t.eO i).dx (v.sub (cA (t.at i))));have d:eU ((t.eO i).dx (v.sub (cA (t.at i)))).q=t.side i v.q:=by rw[NV.sP,NV.fO,ar.xF];rfl
 rw[eU]at d;rw[d]at b;exact b
theorem ar.Bm(t:ar)(v:V2):∀m,t.kr v m<0↔∃i,i<m/\t.side i v<0
 |0=>⟨fun h=>by have:t.kr v 0=1:=rfl;omega,fun⟨i,h,_⟩=>by omega⟩
 |m+1=>by
  rw[ar.xw];have c:=ar.Bm t v m;constructor
  ·intro h;rcases b2 (t.kr v m) 0 with b|b
   ·obtain⟨i,d,a⟩:=c.1 b;exact⟨i,o_,a⟩
   ·exact⟨m,o_,o_⟩
  ·rintro⟨i,d,a⟩
   by_cases e:i=m
   ·subst e;omega
   ·have:=c.2 ⟨i,o_,a⟩;omega
noncomputable def fu(t:ar)(v:NV)(b:Bool)(L:dK):aj:=[.box false (.p (bU t)),.box false (.p (bP v)),.box false (.p (.bool b)),.loop L]
theorem F3(t:ar)(v:NV)(o:t.cs.length<=1000000)(d:∀p∈t.cs,dV p)(m:bJ 3000 v.q):aB prog 107 [bU t,bP v] (.bool (decide (t.on v.q<0))):=by
 refine aJ nf (i_ func107) mix (by simp[f107]) ?_;obtain⟨k,hk,l,n⟩:=vZ (fun i=>decide (0<=t.side i v.q)) t.cs.length;simp[f107,aa];refine c1 (F4 t) ?_;simp;refine RA (FG t o d) rfl s_ (fun L i=>fu t v false L) (fun L i=>fu t v false L++iQ t i) k (by simpa using hk) (fun L=>rfl) ?_ ?_ ?_
 ·intro L a i hi;refine⟨rfl,by simp[fu],fun _ hx=>?_⟩;simp[fu]at hx⊢;exact hx
 ·intro L a i x hi hx;rw[sR o_]at hx;injection hx with hx
  subst hx;refine⟨?_,s_,fun j _ h=>h,rfl,by simp[fu,iQ]⟩;obtain⟨a1,a2,a3⟩:=xC d m (show i<t.cs.length by omega);have hs:¬t.side i v.q<0:=by have:=l i hi;simp at this;omega
  have f:0<=t.side i v.q:=o_
  refine sQ nf mix a rfl rfl k_ ?_;have b:=congrArg dK.env a;dsimp only at b;clear a;generalize v.sub (cA (t.at i))=U at*;generalize (t.eO i).dx U=C at*;simp[fu,nG,iQ,aa];refine e2 a1 ?_;simp[aa];refine e2 a2 ?_;simp[aa];refine e1 a3 ?_;simp[aa,hs,f];refine cR.og s_ s_ s_ s_ ?_;simp;exact xH b s_
 ·intro L a;rcases n with c|⟨c,g⟩
  ·refine .inl ⟨by simpa using c,?_⟩;have e:¬t.on v.q<0:=by
    rw[ar.on,ar.Bm];rintro⟨i,r,s⟩;have:=l i o_;simp at this;omega
   simp[fu,e]
  ·have hs:t.side k v.q<0:=by simp at g;exact g
   have f:¬0<=t.side k v.q:=o_
   have e:t.on v.q<0:=by
    rw[ar.on,ar.Bm];exact⟨k,c,hs⟩
   obtain⟨a1,a2,a3⟩:=xC d m c;refine .inr ⟨nG t k,.ret,fu t v true (L.dn .ret)++iQ t k,fu t v true (L.dn .ret),sR c,rfl,?_,by simp[fu],fun j _ h=>?_,rfl,by simp[fu,iQ],?_,?_⟩
   ·refine sQ nf mix a rfl rfl k_ ?_;have b:=congrArg dK.env a;dsimp only at b;clear a;generalize v.sub (cA (t.at k))=U at*;generalize (t.eO k).dx U=C at*;simp[fu,nG,iQ,aa];refine e2 a1 ?_;simp[aa];refine e2 a2 ?_;simp[aa];refine e1 a3 ?_;simp[aa,hs,f];refine cR.og s_ s_ s_ s_ ?_;simp;exact xJ b s_
   ·have:=b3 h;simp[fu,iQ]at this
   ·have b:=congrArg dK.env a;dsimp only at b;simp[fu];exact xJ b s_
   ·simp[fu,e,je]
def NS.add(s t:NS):NS:=⟨s.a.add t.a,s.b.add t.b,s.d⟩
def NS.neg(s:NS):NS:=⟨s.a.neg,s.b.neg,s.d⟩
def NS.times(s:NS)(k:NF):NS:=⟨s.a.mul k,s.b.mul k,s.d⟩
def NB.dx(n:NB)(e:NV):NS:=⟨e.dx n.a,e.dx n.b,n.d⟩
def NS.plain(a d:NF):NS:=⟨a,.int 0,d⟩
def NS.norm(s:NS):NF:=(s.a.mul s.a).sub ((s.b.mul s.b).mul s.d)
open Classical in
noncomputable def NS.under(s:NS)(k:NF):NS:=if s.norm.q=0 then .plain (k.div (s.a.add s.a)) s.d else⟨(k.mul s.a).div s.norm,(k.mul s.b).neg.div s.norm,s.d⟩
structure XD where
 i:Nat
 a:NV
 w:NV
 g:NF
 s:NS
noncomputable def Qk(x:XD):PV:=.st 161 [wX x.i x.a x.w,eF x.g,AE x.s]
@[simp] theorem aOR(x:XD):aL (Qk x)=.agg 161:=rfl
@[simp] theorem aNh(x:XD):bY (Qk x)=[wX x.i x.a x.w,eF x.g,AE x.s]:=rfl
theorem EV.mono{k l:Nat}{s:NS}(h:EV k s)(a:k<=l):EV l s:=⟨h.1.mono a,h.2.1.mono a,h.2.2.mono a⟩
def zF:PV:=.st 123 [.st 121 [.int .i64 0,.aO],.st 121 [.int .i64 0,.aO]]
def zV:PV:=.st 141 [zF,zF]
def R5:PV:=.st 161 [.st 157 [.int .i64 0,zV,zV],zF,.st 159 [zF,zF,zF]]
@[simp] theorem aPq:aL R5=.agg 161:=rfl
@[simp] theorem aNG:bY R5=[.st 157 [.int .i64 0,zV,zV],zF,.st 159 [zF,zF,zF]]:=rfl
def ar.pos(t:ar)(n:NB)(i:Nat):Bool:=decide (0<sgS ((n.dx (t.eO i)).neg).q)
theorem sO{t:ar}(h:gz t=0):3<=t.cs.length/\t.cs.length<=12/\(∀p∈t.cs,dV p)/\t.gv=true:=by
 rw[FB]at h
 by_cases d:mK t=0
 ·rw[if_pos d]at h
  by_cases e:qG t=0
  ·obtain⟨a,b,c⟩:=Ft d;refine⟨a,b,c,?_⟩;rw[qG,mV]at e;have f:=e (aU (!t.gv) 15) s_;cases hc:t.gv
   ·rw[hc]at f;simp[aU]at f
   ·rfl
  ·rw[if_neg e]at h;exact(e h).elim
 ·rw[if_neg d]at h;exact(d h).elim
theorem mJ(s:List Nat)(n:Int):aB prog 110 [.str s,.int .i64 n] (.bool (decide ((s.length:Int)<=n))):=by
 refine aJ nf (i_ func110) mix (by simp[f110]) ?_;simp[f110]
def jV(p:cX):Bool:=decide (p.name.length<=40)&&(decide (p.a.length<=40)&&decide (p.b.length<=40))
def iy(s:ch):Bool:=decide (s.name.length<=40)&&(decide (s.pt.x.length<=40)&&decide (s.pt.y.length<=40))
def mN(t:ar):Bool:=!(decide (14<t.cs.length)||(decide (14<t.ba.length)||((decide (8<t.ak.length)&&decide (t.ak.length<=256))||decide (258<t.ak.length))))&&(t.ba.all jV&&t.ak.all iy)
theorem o6{α:Type}{f:α->Bool}{l:List α}{i:Nat}{x:α}(h:l[i]?=some x):(l.take (i+1)).all f=((l.take i).all f&&f x):=by
 rw[c9,h];simp
theorem jk{α:Type}{f:α->Bool}{l:List α}{i:Nat}{x:α}(h:l[i]?=some x)(hf:f x=false):l.all f=false:=by
 cases a:l.all f
 ·rfl
 ·rw[eo]at a;rw[a x (b3 h)]at hf;cases hf
theorem SJ(t:ar)(z:t.cs.length<=1000000)(A:t.ba.length<=1000000)(B:t.ak.length<=1000000):aB prog 39 [df t] (.bool (mN t)):=by
 refine aJ nf (i_ func39) mix (by simp[f39]) ?_;have q:mN t=(!(decide (14<t.cs.length)||(decide (14<t.ba.length)||((decide (8<t.ak.length)&&decide (t.ak.length<=256))||decide (258<t.ak.length))))&&(t.ba.all jV&&t.ak.all iy)):=rfl
 by_cases c1:14<t.cs.length
 ·have n:(14:Int)<t.cs.length:=by omega
  have m:mN t=false:=by rw[q];simp[c1]
  simp[f39,aa,n,m]
 have n:¬(14:Int)<t.cs.length:=o_
 by_cases c2:14<t.ba.length
 ·have o:(14:Int)<t.ba.length:=by omega
  have m:mN t=false:=by rw[q];simp[c2]
  simp[f39,aa,n,o,m]
 have o:¬(14:Int)<t.ba.length:=o_
 have tail:(8<t.ak.length->¬t.ak.length<=256)->¬258<t.ak.length->mN t=(t.ba.all jV&&t.ak.all iy):=fun w v=>by
  rw[q]
  by_cases h:8<t.ak.length
  ·have:=w h;simp[c1,c2,h,this,v]
  ·simp[c1,c2,h,v]
 by_cases c3:8<t.ak.length
 ·have r:(8:Int)<t.ak.length:=by omega
  by_cases c4:t.ak.length<=256
  ·have u:(t.ak.length:Int)<=256:=by omega
   have m:mN t=false:=by rw[q];simp[c3,c4]
   simp[f39,aa,n,o,r,u,m]
  ·have u:¬(t.ak.length:Int)<=256:=by omega
   by_cases c5:258<t.ak.length
   ·have s:(258:Int)<t.ak.length:=by omega
    have m:mN t=false:=by rw[q];simp[c5]
    simp[f39,aa,n,o,r,u,s,m]
   ·have s:¬(258:Int)<t.ak.length:=by omega
    rw[tail (fun _=>c4) c5];simp[f39,aa,n,o,r,u,s];refine lp (α:=Nat) (fun i=>⟨[(3,.p (.int .i64 i)),(1,.ptr 0 [])],[.box false (.p (df t))]⟩) (fun i=>i<=t.ba.length/\(t.ba.take i).all jV=true) (fun i=>t.ba.length-i) 0 s_ ?_;rintro i ⟨k1,k2⟩
    by_cases hi:i<t.ba.length
    ·have c:=ar.jC hi;have l:=b6 (i:=i) o_;have e:=mJ (t.pk i).a 40;have g:=mJ (t.pk i).b 40;have f:jV (t.pk i)=(decide ((t.pk i).name.length<=40)&&(decide ((t.pk i).a.length<=40)&&decide ((t.pk i).b.length<=40))):=rfl
     by_cases a1:(t.pk i).name.length<=40
     ·have b1:¬(40:Int)<(t.pk i).name.length:=by omega
      by_cases a2:(t.pk i).a.length<=40
      ·have j:((t.pk i).a.length:Int)<=40:=by omega
       rw[decide_eq_true j]at e
       by_cases a3:(t.pk i).b.length<=40
       ·have k:((t.pk i).b.length:Int)<=40:=by omega
        rw[decide_eq_true k]at g;have d:jV (t.pk i)=true:=by rw[f];simp[a1,a2,a3]
        simp[hi,c,b1,aa];refine c2_ e ?_;simp[hi,c,b1,aa];refine c2_ g ?_;simp[hi,c,b1,l,aa];exact rd (i+1) ⟨hi,by rw[o6 c,k2,d];rfl⟩
       ·have k:¬((t.pk i).b.length:Int)<=40:=by omega
        rw[decide_eq_false k]at g;have d:jV (t.pk i)=false:=by rw[f];simp[a3]
        rw[jk c d];simp[hi,c,b1,aa];refine c2_ e ?_;simp[hi,c,b1,aa];refine c2_ g ?_;simp[hi,c,b1,l,aa]
      ·have j:¬((t.pk i).a.length:Int)<=40:=by omega
       rw[decide_eq_false j]at e;have d:jV (t.pk i)=false:=by rw[f];simp[a2]
       rw[jk c d];simp[hi,c,b1,aa];refine c2_ e ?_;simp[hi,c,b1,aa]
     ·have b1:(40:Int)<(t.pk i).name.length:=by omega
      have d:jV (t.pk i)=false:=by rw[f];simp[a1]
      rw[jk c d];simp[hi,c,b1,aa]
    have:i=t.ba.length:=o_
    subst this;rw[b5]at k2;rw[k2,a8];simp[aa];refine lp (α:=Nat) (fun i=>⟨[(4,.p (.int .i64 i)),(1,.ptr 0 [])],[.box false (.p (df t))]⟩) (fun i=>i<=t.ak.length/\(t.ak.take i).all iy=true) (fun i=>t.ak.length-i) 0 s_ ?_;rintro i ⟨k1,k2⟩
    by_cases hi:i<t.ak.length
    ·have c:=ar.dU hi;have l:=b6 (i:=i) o_;have e:=mJ (t.sp i).pt.x 40;have g:=mJ (t.sp i).pt.y 40;have f:iy (t.sp i)=(decide ((t.sp i).name.length<=40)&&(decide ((t.sp i).pt.x.length<=40)&&decide ((t.sp i).pt.y.length<=40))):=rfl
     by_cases a1:(t.sp i).name.length<=40
     ·have b1:¬(40:Int)<(t.sp i).name.length:=by omega
      by_cases a2:(t.sp i).pt.x.length<=40
      ·have j:((t.sp i).pt.x.length:Int)<=40:=by omega
       rw[decide_eq_true j]at e
       by_cases a3:(t.sp i).pt.y.length<=40
       ·have k:((t.sp i).pt.y.length:Int)<=40:=by omega
        rw[decide_eq_true k]at g;have d:iy (t.sp i)=true:=by rw[f];simp[a1,a2,a3]
        simp[hi,c,b1,aa];refine c2_ e ?_;simp[hi,c,b1,aa];refine c2_ g ?_;simp[hi,c,b1,l,aa];exact rd (i+1) ⟨hi,by rw[o6 c,k2,d];rfl⟩
       ·have k:¬((t.sp i).pt.y.length:Int)<=40:=by omega
        rw[decide_eq_false k]at g;have d:iy (t.sp i)=false:=by rw[f];simp[a3]
        rw[jk c d];simp[hi,c,b1,aa];refine c2_ e ?_;simp[hi,c,b1,aa];refine c2_ g ?_;simp[hi,c,b1,l,aa]
      ·have j:¬((t.sp i).pt.x.length:Int)<=40:=by omega
       rw[decide_eq_false j]at e;have d:iy (t.sp i)=false:=by rw[f];simp[a2]
       rw[jk c d];simp[hi,c,b1,aa];refine c2_ e ?_;simp[hi,c,b1,aa]
     ·have b1:(40:Int)<(t.sp i).name.length:=by omega
      have d:iy (t.sp i)=false:=by rw[f];simp[a1]
      rw[jk c d];simp[hi,c,b1,aa]
    have:i=t.ak.length:=o_
    subst this;rw[b5]at k2;rw[k2];simp[aa]
 ·have r:¬(8:Int)<t.ak.length:=by omega
  have s:¬(258:Int)<t.ak.length:=o_
  rw[tail (fun h=>absurd h c3) o_];simp[f39,aa,n,o,r,s];refine lp (α:=Nat) (fun i=>⟨[(3,.p (.int .i64 i)),(1,.ptr 0 [])],[.box false (.p (df t))]⟩) (fun i=>i<=t.ba.length/\(t.ba.take i).all jV=true) (fun i=>t.ba.length-i) 0 s_ ?_;rintro i ⟨k1,k2⟩
  by_cases hi:i<t.ba.length
  ·have c:=ar.jC hi;have l:=b6 (i:=i) o_;have e:=mJ (t.pk i).a 40;have g:=mJ (t.pk i).b 40;have f:jV (t.pk i)=(decide ((t.pk i).name.length<=40)&&(decide ((t.pk i).a.length<=40)&&decide ((t.pk i).b.length<=40))):=rfl
   by_cases a1:(t.pk i).name.length<=40
   ·have b1:¬(40:Int)<(t.pk i).name.length:=by omega
    by_cases a2:(t.pk i).a.length<=40
    ·have j:((t.pk i).a.length:Int)<=40:=by omega
     rw[decide_eq_true j]at e
     by_cases a3:(t.pk i).b.length<=40
     ·have k:((t.pk i).b.length:Int)<=40:=by omega
      rw[decide_eq_true k]at g;have d:jV (t.pk i)=true:=by rw[f];simp[a1,a2,a3]
      simp[hi,c,b1,aa];refine c2_ e ?_;simp[hi,c,b1,aa];refine c2_ g ?_;simp[hi,c,b1,l,aa];exact rd (i+1) ⟨hi,by rw[o6 c,k2,d];rfl⟩
     ·have k:¬((t.pk i).b.length:Int)<=40:=by omega
      rw[decide_eq_false k]at g;have d:jV (t.pk i)=false:=by rw[f];simp[a3]
      rw[jk c d];simp[hi,c,b1,aa];refine c2_ e ?_;simp[hi,c,b1,aa];refine c2_ g ?_;simp[hi,c,b1,l,aa]
    ·have j:¬((t.pk i).a.length:Int)<=40:=by omega
     rw[decide_eq_false j]at e;have d:jV (t.pk i)=false:=by rw[f];simp[a2]
     rw[jk c d];simp[hi,c,b1,aa];refine c2_ e ?_;simp[hi,c,b1,aa]
   ·have b1:(40:Int)<(t.pk i).name.length:=by omega
    have d:jV (t.pk i)=false:=by rw[f];simp[a1]
    rw[jk c d];simp[hi,c,b1,aa]
  have:i=t.ba.length:=o_
  subst this;rw[b5]at k2;rw[k2,a8];simp[aa];refine lp (α:=Nat) (fun i=>⟨[(4,.p (.int .i64 i)),(1,.ptr 0 [])],[.box false (.p (df t))]⟩) (fun i=>i<=t.ak.length/\(t.ak.take i).all iy=true) (fun i=>t.ak.length-i) 0 s_ ?_;rintro i ⟨k1,k2⟩
  by_cases hi:i<t.ak.length
  ·have c:=ar.dU hi;have l:=b6 (i:=i) o_;have e:=mJ (t.sp i).pt.x 40;have g:=mJ (t.sp i).pt.y 40;have f:iy (t.sp i)=(decide ((t.sp i).name.length<=40)&&(decide ((t.sp i).pt.x.length<=40)&&decide ((t.sp i).pt.y.length<=40))):=rfl
   by_cases a1:(t.sp i).name.length<=40
   ·have b1:¬(40:Int)<(t.sp i).name.length:=by omega
    by_cases a2:(t.sp i).pt.x.length<=40
    ·have j:((t.sp i).pt.x.length:Int)<=40:=by omega
     rw[decide_eq_true j]at e
     by_cases a3:(t.sp i).pt.y.length<=40
     ·have k:((t.sp i).pt.y.length:Int)<=40:=by omega
      rw[decide_eq_true k]at g;have d:iy (t.sp i)=true:=by rw[f];simp[a1,a2,a3]
      simp[hi,c,b1,aa];refine c2_ e ?_;simp[hi,c,b1,aa];refine c2_ g ?_;simp[hi,c,b1,l,aa];exact rd (i+1) ⟨hi,by rw[o6 c,k2,d];rfl⟩
     ·have k:¬((t.sp i).pt.y.length:Int)<=40:=by omega
      rw[decide_eq_false k]at g;have d:iy (t.sp i)=false:=by rw[f];simp[a3]
      rw[jk c d];simp[hi,c,b1,aa];refine c2_ e ?_;simp[hi,c,b1,aa];refine c2_ g ?_;simp[hi,c,b1,l,aa]
    ·have j:¬((t.sp i).pt.x.length:Int)<=40:=by omega
     rw[decide_eq_false j]at e;have d:iy (t.sp i)=false:=by rw[f];simp[a2]
     rw[jk c d];simp[hi,c,b1,aa];refine c2_ e ?_;simp[hi,c,b1,aa]
   ·have b1:(40:Int)<(t.sp i).name.length:=by omega
    have d:iy (t.sp i)=false:=by rw[f];simp[a1]
    rw[jk c d];simp[hi,c,b1,aa]
  have:i=t.ak.length:=o_
  subst this;rw[b5]at k2;rw[k2];simp[aa]
theorem UE(l:List dS):fa prog 2 (l.map (AV.p∘cH)):=zA (fun r=>⟨by simp[aa],by simp[aa]⟩) l
theorem sU{α:Type}{f:α->AV}{l:List α}{j:Nat}{x:α}(h:l[j+1]?=some x):(l.take (j+1+1)).map f=(l.map f).take (j+1)++[f x]:=by
 rw[c9 (i:=j+1),h,e8,ew];rfl
theorem kD{N:Nat×Nat->Prop}{α:Type}{f:α->PV}{k:Nat}{l:List α}:aV N ((l.map (AV.p∘f)).take k)=True:=by
 rw[cM,eq_iff_iff,iff_true];intro x hx;obtain⟨a,_,rfl⟩:=dq.1 (List.mem_of_mem_take hx);trivial
theorem o8:dZ=fq:=rfl
theorem o7:gQ=bC:=rfl
theorem sV{α:Type}{l:List α}{x:α}(h:l[0]?=some x):l.take 1=[x]:=by
 rw[c9 (i:=0),h];rfl
theorem SP(t:ar)(s:t.cs.length<=1000000)(u:t.ba.length<=1000000)(v:t.ak.length<=1000000):aB prog 18 [df t] (bU t):=by
 have r:(1000000:Nat)<cV:=by decide
 have w1:bo.wrap 1=1:=by decide
 refine aJ nf (i_ func18) mix (by simp[f18]) ?_;simp[f18,aa];refine⟨⟨UE _,o_⟩,?_⟩
 by_cases hc:t.cs=[]
 ·simp[hc];refine⟨⟨by repeat' first|rfl|apply am,by repeat' first|rfl|apply am⟩,?_⟩;refine lp (α:=Nat) (fun i=>match i with
    |0=>⟨[(18,.p (.int .i64 0)),(17,.p (.int .i64 t.ba.length)),(16,.p (.seq (t.ba.map fq))),(3,.ptr 3 []),(2,.ptr 1 []),(1,.ptr 0 [])],[.box false (.p (df t)),.box false (.p (.st 42 [.aO,.int .i64 0,.aO,.aO])),.arr .exact 0 2 [],.box false (.st 42 [.sl 2 0 2 0 0,.p (.int .i64 t.aR),.p .aO,.p .aO])]⟩
    |m+1=>⟨[(18,.p (.int .i64 ((m+1:Nat):Int))),(17,.p (.int .i64 t.ba.length)),(16,.p (.seq (t.ba.map fq))),(3,.ptr 3 []),(2,.ptr 1 []),(1,.ptr 0 [])],[.box false (.p (df t)),.box false (.p (.st 42 [.aO,.int .i64 0,.aO,.aO])),.arr .exact 0 2 [],.box false (.st 42 [.sl 2 0 2 0 0,.p (.int .i64 t.aR),.sl 6 m 4 0 (m+1),.p .aO]),.hole,.hole,.arr .grow m 4 ((t.ba.take (m+1)).map (AV.p∘fq))]⟩) (fun i=>i<=t.ba.length) (fun i=>t.ba.length-i) 0 s_ ?_
  rintro i o
  by_cases hi:i<t.ba.length
  ·have a:=ar.jC hi;rcases i with _|j
   ·have b:=sV a;simp[hi,a,w1,aa];exact⟨o_,rd 1 hi (hh:=by simp[b]) (hr2:=by simp[kD])⟩
   ·have h:bo.wrap ((j:Int)+1+1)=(j:Int)+1+1:=aQ _ o_ o_;have hI:(j:Int)+1<t.ba.length:=by omega
    have b:=sU (f:=AV.p∘fq) a;simp[hi,hI,a,h,aa];exact⟨o_,⟨o_,o_⟩,rd (j+2) hi (hh:=by simp at b;simp[b]) (hr2:=by simp[kD])⟩
  have q:i=t.ba.length:=o_
  rcases i with _|j
  ·have n:t.ba=[]:=cy.1 q.symm;simp[n,aa];refine lp (α:=Nat) (fun i=>match i with
     |0=>⟨[(32,.p (.int .i64 0)),(31,.p (.int .i64 t.ak.length)),(30,.p (.seq (t.ak.map bC))),(3,.ptr 3 []),(2,.ptr 1 []),(1,.ptr 0 [])],[.box false (.p (df t)),.box false (.p (.st 42 [.aO,.int .i64 0,.aO,.aO])),.arr .exact 0 2 [],.box false (.st 42 [.sl 2 0 2 0 0,.p (.int .i64 t.aR),.p .aO,.p .aO])]⟩
     |m+1=>⟨[(32,.p (.int .i64 ((m+1:Nat):Int))),(31,.p (.int .i64 t.ak.length)),(30,.p (.seq (t.ak.map bC))),(3,.ptr 3 []),(2,.ptr 1 []),(1,.ptr 0 [])],[.box false (.p (df t)),.box false (.p (.st 42 [.aO,.int .i64 0,.aO,.aO])),.arr .exact 0 2 [],.box false (.st 42 [.sl 2 0 2 0 0,.p (.int .i64 t.aR),.p .aO,.sl 6 m 3 0 (m+1)]),.hole,.hole,.arr .grow m 3 ((t.ak.take (m+1)).map (AV.p∘bC))]⟩) (fun i=>i<=t.ak.length) (fun i=>t.ak.length-i) 0 s_ ?_
   rintro i o
   by_cases hi:i<t.ak.length
   ·have a:=ar.dU hi;rcases i with _|j
    ·have b:=sV a;simp[hi,a,w1,aa];exact⟨o_,rd 1 hi (hh:=by simp[b]) (hr2:=by simp[kD])⟩
    ·have h:bo.wrap ((j:Int)+1+1)=(j:Int)+1+1:=aQ _ o_ o_;have hI:(j:Int)+1<t.ak.length:=by omega
     have b:=sU (f:=AV.p∘bC) a;simp[hi,hI,a,h,aa];exact⟨o_,⟨o_,o_⟩,rd (j+2) hi (hh:=by simp at b;simp[b]) (hr2:=by simp[kD])⟩
   have d:i=t.ak.length:=o_
   rcases i with _|c
   ·have e:t.ak=[]:=cy.1 d.symm;simp[e,aa];simp[bU,hc,n,e,o8,o7]
   ·have hI:¬((c:Int)+1<t.ak.length):=by omega
    have g:t.ak.take (c+1)=t.ak:=by rw[d,b5]
    simp[hI,g,aa];have l:(t.ak.map (AV.p∘bC)).take (c+1)=t.ak.map (AV.p∘bC):=cc (by simp;omega);simp[bU,hc,n,l,o8,o7];omega
  ·have hI:¬((j:Int)+1<t.ba.length):=by omega
   have g:t.ba.take (j+1)=t.ba:=by rw[q,b5]
   simp[hI,g,aa];refine lp (α:=Nat) (fun i=>match i with
    |0=>⟨[(32,.p (.int .i64 0)),(31,.p (.int .i64 t.ak.length)),(30,.p (.seq (t.ak.map bC))),(3,.ptr 3 []),(2,.ptr 1 []),(1,.ptr 0 [])],[.box false (.p (df t)),.box false (.p (.st 42 [.aO,.int .i64 0,.aO,.aO])),.arr .exact 0 2 [],.box false (.st 42 [.sl 2 0 2 0 0,.p (.int .i64 t.aR),.sl 6 j 4 0 (j+1),.p .aO]),.hole,.hole,.arr .grow j 4 (t.ba.map (AV.p∘fq))]⟩
    |m+1=>⟨[(32,.p (.int .i64 ((m+1:Nat):Int))),(31,.p (.int .i64 t.ak.length)),(30,.p (.seq (t.ak.map bC))),(3,.ptr 3 []),(2,.ptr 1 []),(1,.ptr 0 [])],[.box false (.p (df t)),.box false (.p (.st 42 [.aO,.int .i64 0,.aO,.aO])),.arr .exact 0 2 [],.box false (.st 42 [.sl 2 0 2 0 0,.p (.int .i64 t.aR),.sl 6 j 4 0 (j+1),.sl 9 m 3 0 (m+1)]),.hole,.hole,.arr .grow j 4 (t.ba.map (AV.p∘fq)),.hole,.hole,.arr .grow m 3 ((t.ak.take (m+1)).map (AV.p∘bC))]⟩) (fun i=>i<=t.ak.length) (fun i=>t.ak.length-i) 0 s_ ?_
   rintro i o
   by_cases hi:i<t.ak.length
   ·have a:=ar.dU hi;rcases i with _|j
    ·have b:=sV a;simp[hi,a,w1,aa];exact⟨o_,rd 1 hi (hh:=by simp[b]) (hr2:=by simp[kD])⟩
    ·have h:bo.wrap ((j:Int)+1+1)=(j:Int)+1+1:=aQ _ o_ o_;have hI:(j:Int)+1<t.ak.length:=by omega
     have b:=sU (f:=AV.p∘bC) a;simp[hi,hI,a,h,aa];exact⟨o_,⟨o_,o_⟩,rd (j+2) hi (hh:=by simp at b;simp[b]) (hr2:=by simp[kD])⟩
   have d:i=t.ak.length:=o_
   rcases i with _|c
   ·have e:t.ak=[]:=cy.1 d.symm;simp[e,aa];have k:(t.ba.map (AV.p∘fq)).take (j+1)=t.ba.map (AV.p∘fq):=cc (by simp;omega);simp[bU,hc,k,e,o8,o7];omega
   ·have hI:¬((c:Int)+1<t.ak.length):=by omega
    have g:t.ak.take (c+1)=t.ak:=by rw[d,b5]
    simp[hI,g,aa];have k:(t.ba.map (AV.p∘fq)).take (j+1)=t.ba.map (AV.p∘fq):=cc (by simp;omega);have l:(t.ak.map (AV.p∘bC)).take (c+1)=t.ak.map (AV.p∘bC):=cc (by simp;omega);simp[bU,hc,k,l,o8,o7];omega
 ·simp[hc];refine⟨⟨by repeat' first|rfl|apply am,by repeat' first|rfl|apply am⟩,?_⟩;refine lp (α:=Nat) (fun i=>match i with
    |0=>⟨[(18,.p (.int .i64 0)),(17,.p (.int .i64 t.ba.length)),(16,.p (.seq (t.ba.map fq))),(3,.ptr 4 []),(2,.ptr 1 []),(1,.ptr 0 [])],[.box false (.p (df t)),.box false (.p (.st 42 [.aO,.int .i64 0,.aO,.aO])),.arr .exact 0 2 [],.arr .grow 0 2 (t.cs.map (AV.p∘cH)),.box false (.st 42 [.sl 3 0 2 0 t.cs.length,.p (.int .i64 t.aR),.p .aO,.p .aO])]⟩
    |m+1=>⟨[(18,.p (.int .i64 ((m+1:Nat):Int))),(17,.p (.int .i64 t.ba.length)),(16,.p (.seq (t.ba.map fq))),(3,.ptr 4 []),(2,.ptr 1 []),(1,.ptr 0 [])],[.box false (.p (df t)),.box false (.p (.st 42 [.aO,.int .i64 0,.aO,.aO])),.arr .exact 0 2 [],.arr .grow 0 2 (t.cs.map (AV.p∘cH)),.box false (.st 42 [.sl 3 0 2 0 t.cs.length,.p (.int .i64 t.aR),.sl 7 m 4 0 (m+1),.p .aO]),.hole,.hole,.arr .grow m 4 ((t.ba.take (m+1)).map (AV.p∘fq))]⟩) (fun i=>i<=t.ba.length) (fun i=>t.ba.length-i) 0 s_ ?_
  rintro i o
  by_cases hi:i<t.ba.length
  ·have a:=ar.jC hi;rcases i with _|j
   ·have b:=sV a;simp[hi,a,w1,aa];exact⟨o_,rd 1 hi (hh:=by simp[b]) (hr2:=by simp[kD])⟩
   ·have h:bo.wrap ((j:Int)+1+1)=(j:Int)+1+1:=aQ _ o_ o_;have hI:(j:Int)+1<t.ba.length:=by omega
    have b:=sU (f:=AV.p∘fq) a;simp[hi,hI,a,h,aa];exact⟨o_,⟨o_,o_⟩,rd (j+2) hi (hh:=by simp at b;simp[b]) (hr2:=by simp[kD])⟩
  have q:i=t.ba.length:=o_
  rcases i with _|j
  ·have n:t.ba=[]:=cy.1 q.symm;simp[n,aa];refine lp (α:=Nat) (fun i=>match i with
     |0=>⟨[(32,.p (.int .i64 0)),(31,.p (.int .i64 t.ak.length)),(30,.p (.seq (t.ak.map bC))),(3,.ptr 4 []),(2,.ptr 1 []),(1,.ptr 0 [])],[.box false (.p (df t)),.box false (.p (.st 42 [.aO,.int .i64 0,.aO,.aO])),.arr .exact 0 2 [],.arr .grow 0 2 (t.cs.map (AV.p∘cH)),.box false (.st 42 [.sl 3 0 2 0 t.cs.length,.p (.int .i64 t.aR),.p .aO,.p .aO])]⟩
     |m+1=>⟨[(32,.p (.int .i64 ((m+1:Nat):Int))),(31,.p (.int .i64 t.ak.length)),(30,.p (.seq (t.ak.map bC))),(3,.ptr 4 []),(2,.ptr 1 []),(1,.ptr 0 [])],[.box false (.p (df t)),.box false (.p (.st 42 [.aO,.int .i64 0,.aO,.aO])),.arr .exact 0 2 [],.arr .grow 0 2 (t.cs.map (AV.p∘cH)),.box false (.st 42 [.sl 3 0 2 0 t.cs.length,.p (.int .i64 t.aR),.p .aO,.sl 7 m 3 0 (m+1)]),.hole,.hole,.arr .grow m 3 ((t.ak.take (m+1)).map (AV.p∘bC))]⟩) (fun i=>i<=t.ak.length) (fun i=>t.ak.length-i) 0 s_ ?_
   rintro i o
   by_cases hi:i<t.ak.length
   ·have a:=ar.dU hi;rcases i with _|j
    ·have b:=sV a;simp[hi,a,w1,aa];exact⟨o_,rd 1 hi (hh:=by simp[b]) (hr2:=by simp[kD])⟩
    ·have h:bo.wrap ((j:Int)+1+1)=(j:Int)+1+1:=aQ _ o_ o_;have hI:(j:Int)+1<t.ak.length:=by omega
     have b:=sU (f:=AV.p∘bC) a;simp[hi,hI,a,h,aa];exact⟨o_,⟨o_,o_⟩,rd (j+2) hi (hh:=by simp at b;simp[b]) (hr2:=by simp[kD])⟩
   have d:i=t.ak.length:=o_
   rcases i with _|c
   ·have e:t.ak=[]:=cy.1 d.symm;simp[e,aa];simp[bU,hc,n,e,o8,o7]
   ·have hI:¬((c:Int)+1<t.ak.length):=by omega
    have g:t.ak.take (c+1)=t.ak:=by rw[d,b5]
    simp[hI,g,aa];have l:(t.ak.map (AV.p∘bC)).take (c+1)=t.ak.map (AV.p∘bC):=cc (by simp;omega);simp[bU,hc,n,l,o8,o7];omega
  ·have hI:¬((j:Int)+1<t.ba.length):=by omega
   have g:t.ba.take (j+1)=t.ba:=by rw[q,b5]
   simp[hI,g,aa];refine lp (α:=Nat) (fun i=>match i with
    |0=>⟨[(32,.p (.int .i64 0)),(31,.p (.int .i64 t.ak.length)),(30,.p (.seq (t.ak.map bC))),(3,.ptr 4 []),(2,.ptr 1 []),(1,.ptr 0 [])],[.box false (.p (df t)),.box false (.p (.st 42 [.aO,.int .i64 0,.aO,.aO])),.arr .exact 0 2 [],.arr .grow 0 2 (t.cs.map (AV.p∘cH)),.box false (.st 42 [.sl 3 0 2 0 t.cs.length,.p (.int .i64 t.aR),.sl 7 j 4 0 (j+1),.p .aO]),.hole,.hole,.arr .grow j 4 (t.ba.map (AV.p∘fq))]⟩
    |m+1=>⟨[(32,.p (.int .i64 ((m+1:Nat):Int))),(31,.p (.int .i64 t.ak.length)),(30,.p (.seq (t.ak.map bC))),(3,.ptr 4 []),(2,.ptr 1 []),(1,.ptr 0 [])],[.box false (.p (df t)),.box false (.p (.st 42 [.aO,.int .i64 0,.aO,.aO])),.arr .exact 0 2 [],.arr .grow 0 2 (t.cs.map (AV.p∘cH)),.box false (.st 42 [.sl 3 0 2 0 t.cs.length,.p (.int .i64 t.aR),.sl 7 j 4 0 (j+1),.sl 10 m 3 0 (m+1)]),.hole,.hole,.arr .grow j 4 (t.ba.map (AV.p∘fq)),.hole,.hole,.arr .grow m 3 ((t.ak.take (m+1)).map (AV.p∘bC))]⟩) (fun i=>i<=t.ak.length) (fun i=>t.ak.length-i) 0 s_ ?_
   rintro i o
   by_cases hi:i<t.ak.length
   ·have a:=ar.dU hi;rcases i with _|j
    ·have b:=sV a;simp[hi,a,w1,aa];exact⟨o_,rd 1 hi (hh:=by simp[b]) (hr2:=by simp[kD])⟩
    ·have h:bo.wrap ((j:Int)+1+1)=(j:Int)+1+1:=aQ _ o_ o_;have hI:(j:Int)+1<t.ak.length:=by omega
     have b:=sU (f:=AV.p∘bC) a;simp[hi,hI,a,h,aa];exact⟨o_,⟨o_,o_⟩,rd (j+2) hi (hh:=by simp at b;simp[b]) (hr2:=by simp[kD])⟩
   have d:i=t.ak.length:=o_
   rcases i with _|c
   ·have e:t.ak=[]:=cy.1 d.symm;simp[e,aa];have k:(t.ba.map (AV.p∘fq)).take (j+1)=t.ba.map (AV.p∘fq):=cc (by simp;omega);simp[bU,hc,k,e,o8,o7];omega
   ·have hI:¬((c:Int)+1<t.ak.length):=by omega
    have g:t.ak.take (c+1)=t.ak:=by rw[d,b5]
    simp[hI,g,aa];have k:(t.ba.map (AV.p∘fq)).take (j+1)=t.ba.map (AV.p∘fq):=cc (by simp;omega);have l:(t.ak.map (AV.p∘bC)).take (c+1)=t.ak.map (AV.p∘bC):=cc (by simp;omega);simp[bU,hc,k,l,o8,o7];omega
def gN(r:Int)(a b:V2):Int:=dO ((a.sub b).dot (a.sub b)) (jO r)
def fK(t:ar)(bef:List ch)(s:ch):Int:=
 if isName s.name=false then 8
 else if bef.any (fun o=>decide (o.name=s.name))=true then 9
 else if ez s.pt≠0 then ez s.pt
 else if t.on (vP s.pt)<0 then 16
 else if bef.any (fun o=>decide (gN t.aR (vP o.pt) (vP s.pt)<0))=true then 17 else 0
def qf(t b:ar):Int:=if 24<b.ak.length then 5 else jH (fK t) b.ak
def fw(t b:ar):Int:=if gz t≠0 then gz t else qf t b
structure gf(b:ar):Prop where
 sl:b.ak.length<=1000000
 sp:∀s∈b.ak,nB s
theorem mP{t:ar}(h:gz t=0):1<=t.aR/\t.aR<=1000:=by
 rw[gz]at h
 split at h
 ·omega
 split at h
 ·omega
 split at h
 ·omega
 split at h
 ·omega
 split at h
 ·omega
 omega
theorem xO{s:fF}(h:ez s=0):eV (vP s)=fX s/\bJ 2000 (vP s):=by
 obtain⟨g1,g2⟩:=jr h;refine⟨?_,gM g1,gM g2⟩;rw[eV,vP];dsimp only;rw[(ka g1).1,(ka g2).1]
theorem Tc(t:ar)(a:0<=t.aR)(b:t.aR<=1000000):aB prog 273 [df t] (.str (bE (jO t.aR))):=by
 have e:=zy a b;have c:=DL (4*t.aR*t.aR) o_ o_;have w1:bo.wrap (4*t.aR)=4*t.aR:=aQ _ o_ o_;have d:bo.wrap (4*t.aR*t.aR)=4*t.aR*t.aR:=aQ _ o_ o_;refine aJ nf (i_ func273) mix (by simp[f273]) ?_;rw[jO];simp[f273,aa,w1,d];refine c1 c ?_;simp
theorem Td(t:ar)(a b:V2)(d:0<=t.aR)(e:t.aR<=1000000)(f:bJ 2000 a)(g:bJ 2000 b):aB prog 214 [df t,eV a,eV b] (.int .i64 (gN t.aR a b)):=by
 have c:=kg f g;have k1:=Ek a b (f.mono (by decide)) (g.mono (by decide));have k2:=TT (a.sub b) (c.mono (by decide));have k3:=Tc t d e;have k4:=uW ((a.sub b).dot (a.sub b)) (jO t.aR) ((s9 c c).mono (by decide)) ((B0 d e).mono (by decide));refine aJ nf (i_ func214) mix (by simp[f214]) ?_;rw[gN];simp[f214,aa];refine e2 k1 ?_;simp[aa];refine e1 k2 ?_;simp[aa];refine e1 k3 ?_;simp[aa];refine e2 k4 ?_;simp[aa]
theorem GK{α:Type}{f:α->Bool}{l:List α}{i j:Nat}{x:α}(h:l[j]?=some x)(a:j<i)(hf:f x=true):(l.take i).any f=true:=by
 rw[ck];exact⟨x,b3 (i:=j) (by rw[eb,if_pos a];exact h),hf⟩
theorem Bv{t:ar}{a:List ch}{s:ch}(h:fK t a s=0):ez s.pt=0:=by
 rw[fK]at h
 split at h
 ·omega
 split at h
 ·omega
 split at h
 ·contradiction
 ·rename_i g;exact bb.1 g
theorem SX(t b:ar)(v:gz t=0)(z:gf b)(A:t.cs.length<=1000000):aB prog 112 [df t,.seq (b.ak.map bC)] (.int .i64 (qf t b)):=by
 obtain⟨P,C⟩:=z;obtain⟨_,_,B,_⟩:=sO v;obtain⟨Q,R⟩:=mP v;refine aJ nf (i_ func112) mix (by simp[f112]) ?_;rw[qf]
 by_cases c4:24<b.ak.length
 ·have cI:(24:Int)<b.ak.length:=by omega
  rw[if_pos c4];simp[f112,aa,cI]
 have x:¬(24:Int)<b.ak.length:=o_
 rw[if_neg c4];simp[f112,aa,x];refine lp (α:=Nat) (fun i=>⟨[(5,.p (.int .i64 i)),(2,.ptr 0 []),(1,.p (.seq (b.ak.map bC)))],[.box false (.p (df t))]⟩) (fun i=>i<=b.ak.length/\∀j,j<i->fU (fK t) b.ak j=0) (fun i=>b.ak.length-i) 0 s_ ?_;rintro i ⟨s1,s2⟩
 by_cases hs:i<b.ak.length
 case neg=>
  have:i=b.ak.length:=o_
  subst this;rw[mM.2 s2];simp[aa]
 have a:=ar.dU hs;have D:=b6 (i:=i) o_;obtain⟨I,J⟩:=C _ (b3 a);have f:=Bg (b.sp i).name I.1;have y:=IC (b.sp i).pt J;have d:fK t (b.ak.take i) (b.sp i)≠0->jH (fK t) b.ak=fK t (b.ak.take i) (b.sp i):=sT s2 a;have H:fK t (b.ak.take i) (b.sp i)=0->∀j,j<i+1->fU (fK t) b.ak j=0:=sS s2 a;have M:∀j,j<i->ez (b.sp j).pt=0:=fun j c=>by
  have:=s2 j c;rw[fU,ar.dU o_]at this;exact Bv this
 have ev:fK t (b.ak.take i) (b.sp i)=if isName (b.sp i).name=false then 8 else if(b.ak.take i).any (fun o=>decide (o.name=(b.sp i).name))=true then 9 else if ez (b.sp i).pt≠0 then ez (b.sp i).pt else if t.on (vP (b.sp i).pt)<0 then 16 else if(b.ak.take i).any (fun o=>decide (gN t.aR (vP o.pt) (vP (b.sp i).pt)<0))=true then 17 else 0:=rfl
 clear s2;generalize fK t (b.ak.take i) (b.sp i)=E at*;generalize jH (fK t) b.ak=N at*;cases l:isName (b.sp i).name
 ·rw[l]at f;rw[l,if_pos rfl]at ev;rw[d (by rw[ev];decide),ev];simp[hs,a,aa];refine c1_ f ?_;simp[aa]
 rw[l]at f;rw[l,if_neg (by decide)]at ev;simp[hs,a,aa];refine c1_ f ?_;simp[aa];refine lp (α:=Nat) (fun k=>⟨[(6,.p (.int .i64 k)),(5,.p (.int .i64 i)),(2,.ptr 0 []),(1,.p (.seq (b.ak.map bC)))],[.box false (.p (df t))]⟩) (fun k=>k<=i/\(b.ak.take k).any (fun o=>decide (o.name=(b.sp i).name))=false) (fun k=>i-k) 0 s_ ?_;rintro k ⟨k1,k2⟩
 by_cases hk:k<i
 ·have r:k<b.ak.length:=by omega
  have gk:=ar.dU r;have G:=b6 (i:=k) o_
  by_cases h:(b.sp k).name=(b.sp i).name
  ·rw[if_pos (GK gk hk (by simp[h]))]at ev;rw[d (by rw[ev];decide),ev];simp[hs,hk,r,gk,a,h,aa]
  ·simp[hs,hk,r,gk,a,h,G,aa];exact rd (k+1) ⟨hk,by rw[uT gk,k2];simp[h]⟩
 have:k=i:=o_
 subst this;rw[k2,if_neg (by decide)]at ev;clear k1 k2 hk;have s:¬k<k:=o_
 simp[s,hs,a,aa];refine c1_ y ?_
 by_cases pe:ez (b.sp k).pt=0
 case neg=>
  rw[if_pos pe]at ev;rw[d (by rw[ev];exact pe),ev];simp[pe,aa]
 rw[if_neg (by simp[pe])]at ev;obtain⟨pl,ok⟩:=xO pe;have u:=P1 t (vP (b.sp k).pt) A B (ok.mono (by decide));rw[pl]at u;simp[pe,hs,a,aa];refine e2_ u ?_
 by_cases m:t.on (vP (b.sp k).pt)<0
 ·rw[if_pos m]at ev;rw[d (by rw[ev];decide),ev];simp[m,aa]
 rw[if_neg m]at ev;simp[m,aa];refine lp (α:=Nat) (fun j=>⟨[(8,.p (.int .i64 j)),(5,.p (.int .i64 k)),(2,.ptr 0 []),(1,.p (.seq (b.ak.map bC)))],[.box false (.p (df t))]⟩) (fun j=>j<=k/\(b.ak.take j).any (fun o=>decide (gN t.aR (vP o.pt) (vP (b.sp k).pt)<0))=false) (fun j=>k-j) 0 s_ ?_;rintro j ⟨O,w⟩
 by_cases c:j<k
 ·have q:j<b.ak.length:=by omega
  have e:=ar.dU q;have F:=b6 (i:=j) o_;obtain⟨L,K⟩:=xO (M j c);have n:=Td t (vP (b.sp j).pt) (vP (b.sp k).pt) o_ o_ K ok;rw[pl,L]at n
  by_cases g:gN t.aR (vP (b.sp j).pt) (vP (b.sp k).pt)<0
  ·rw[if_pos (GK e c (by simp[g]))]at ev;rw[d (by rw[ev];decide),ev];simp[hs,c,q,e,a,aa];refine e3_ n ?_;simp[g,aa]
  ·simp[hs,c,q,e,a,aa];refine e3_ n ?_;simp[g,F,aa];exact rd (j+1) ⟨c,by rw[uT e,w];simp[g]⟩
 have:j=k:=o_
 subst this;rw[w,if_neg (by decide)]at ev;simp[s,D,aa];exact rd (j+1) ⟨hs,H ev⟩
theorem GN(t b:ar)(a:iB t)(c:gf b):aB prog 41 [df t,.seq (b.ak.map bC)] (.int .i64 (fw t b)):=by
 have k1:=Sk t a;refine aJ nf (i_ func41) mix (by simp[f41]) ?_;rw[fw]
 by_cases h:gz t=0
 ·rw[if_neg (by simp[h])];have k2:=SX t b h c a.cl;rw[h]at k1;simp[f41,aa];refine c1_ k1 ?_;simp[aa];refine c2_ k2 ?_;simp[aa]
 ·rw[if_pos h];generalize gz t=e at*;simp[f41,aa];refine c1_ k1 ?_;simp[h,aa]
theorem Z1(v w:NV)(a:bJ kQ v.q)(b:bJ kQ w.q):aB prog 313 [fy v,fy w] (eF (v.dot w)):=by
 have c:=jQ v.x w.x (dF a.1) (dF b.1);have d:=jQ v.y w.y (dF a.2) (dF b.2);have e:=su (v.x.mul w.x) (v.y.mul w.y) ((gC a.1 b.1).mono (by decide)) ((gC a.2 b.2).mono (by decide));refine aJ nf (i_ func313) mix (by simp[f313]) ?_;rw[NV.dot];simp[f313,aa];refine e2 c ?_;simp[aa];refine e2 d ?_;simp[aa];refine e2 e ?_;simp[aa]
theorem S9(t:ar)(a:0<=t.aR)(b:t.aR<=1000000):aB prog 314 [bU t] (eF (.width t.aR)):=by
 have e:=zy a b;have c:=kj (4*t.aR*t.aR) o_ o_;have w1:bo.wrap (4*t.aR)=4*t.aR:=aQ _ o_ o_;have d:bo.wrap (4*t.aR*t.aR)=4*t.aR*t.aR:=aQ _ o_ o_;refine aJ nf (i_ func314) mix (by simp[f314]) ?_;rw[NF.width];simp[f314,aa,w1,d];refine c1 c ?_;simp[aa]
theorem aIs(a b:V2):(b.sub a).dot (b.sub a)=(a.sub b).dot (a.sub b):=by
 simp only[V2.sub,V2.dot]
 grind
theorem Tb(t:ar)(a b:NV)(d:0<=t.aR)(e:t.aR<=1000000)(f:bJ 2000 a.q)(g:bJ 2000 b.q):aB prog 267 [bU t,fy a,fy b] (.int .i64 (gN t.aR a.q b.q)):=by
 have c:=kg g f;rw[<-NV.fO]at c;have k1:=Bs b a (g.mono (by decide)) (f.mono (by decide));have k2:=Z1 (b.sub a) (b.sub a) (c.mono (by decide)) (c.mono (by decide));have k3:=S9 t d e;have k4:=nv ((b.sub a).dot (b.sub a)) (.width t.aR) (by rw[NV.kX];exact(s9 c c).mono (by decide)) ((B0 d e).mono (by decide));have hq:dO ((b.sub a).dot (b.sub a)).q (NF.width t.aR).q=gN t.aR a.q b.q:=by
  rw[gN,NV.kX,NV.fO,aIs];rfl
 rw[hq]at k4;refine aJ nf (i_ func267) mix (by simp[f267]) ?_;simp[f267,aa];refine c2 k1 ?_;simp[aa];refine e2 k2 ?_;simp[aa];refine e1 k3 ?_;simp[aa];refine e2 k4 ?_;simp[aa]
def uG(p:ch):Prop:=nB p/\ez p.pt=0
theorem axS(t:ar)(v:NV)(o:ch)(b:0<=t.aR)(c:t.aR<=1000000)(e:bJ 2000 v.q)(d:uG o):
 cC prog 266 [.box false (.p (bU t)),.box false (.p (fy v))] [.p (bC o),.ptr 0 [],.ptr 1 []] [.box false (.p (bU t)),.box false (.p (fy v))] (.p (.bool (decide (gN t.aR (vP o.pt) v.q<0)))):=by
 obtain⟨⟨h,f⟩,a⟩:=d;obtain⟨g1,g2⟩:=jr a;obtain⟨_,ok⟩:=xO a;have k1:=Eo o.pt g1 g2 f;have k2:=Tb t (.from o.pt) v b c (by rw[iW];exact ok) e;rw[iW]at k2;generalize gN t.aR (vP o.pt) v.q=y at*;generalize NV.from o.pt=g at*;refine fk nf (i_ func266) mix (by simp[f266]) ?_;simp[f266,aa];refine e1_ k1 ?_;simp[aa];refine e3_ k2 ?_;simp[aa];exact cR.og s_ s_ s_ s_ s_
theorem S5(t:ar)(v:NV)(l:List ch)(h:l.length<=1000000)(a:0<=t.aR)(b:t.aR<=1000000)(d:bJ 2000 v.q)(c:∀o∈l,uG o):
 cC prog 261 [.box false (.p (bU t)),.box false (.p (fy v))] [.p (.seq (l.map bC)),.func 266 [] [.ptr 0 [],.ptr 1 []]] [.box false (.p (bU t)),.box false (.p (fy v))] (.p (.int .i64 (idxFrom (fun o=>decide (gN t.aR (vP o.pt) v.q<0)) l 0))):=by
 refine fk nf (i_ func261) mix (by simp[f261]) ?_;simp[f261];refine lp (α:=Nat) (fun i=>⟨[(8,.p (.int .i64 i)),(7,.p (.int .i64 l.length)),(1,.func 266 [] [.ptr 0 [],.ptr 1 []]),(0,.p (.seq (l.map bC)))],[.box false (.p (bU t)),.box false (.p (fy v))]⟩) (fun i=>i<=l.length/\idxFrom (fun o=>decide (gN t.aR (vP o.pt) v.q<0)) l 0=idxFrom (fun o=>decide (gN t.aR (vP o.pt) v.q<0)) (l.drop i) i) (fun i=>l.length-i) 0 s_ ?_;rintro i ⟨k1,k2⟩;have e:=b6 (i:=i) o_
 by_cases hi:i<l.length
 ·rw[b4 hi,idxFrom]at k2;simp[hi];refine cf (axS t v l[i] a b d (c _ (e7 hi))) [0,1] ?_
  by_cases hk:gN t.aR (vP l[i].pt) v.q<0
  ·simp[hk]at k2;simp[hk,k2,bc]
  ·simp[hk]at k2;simp[hk,e,bc];exact rd (i+1) ⟨hi,k2⟩
 ·have:i=l.length:=by omega
  subst this;simp[idxFrom]at k2;simp[k2]
theorem S0(t:ar)(v:NV)(l:List ch)(h:l.length<=1000000)(a:0<=t.aR)(b:t.aR<=1000000)(d:bJ 2000 v.q)(c:∀o∈l,uG o):
 cC prog 198 [.box false (.p (bU t)),.box false (.p (fy v))] [.p (.seq (l.map bC)),.func 266 [] [.ptr 0 [],.ptr 1 []]] [.box false (.p (bU t)),.box false (.p (fy v))] (.p (.bool (l.any (fun o=>decide (gN t.aR (vP o.pt) v.q<0))))):=by
 refine fk nf (i_ func198) mix (by simp[f198]) ?_;simp[f198];refine cf (S5 t v l h a b d c) [0,1] ?_;have:=oZ (fun o=>decide (gN t.aR (vP o.pt) v.q<0)) l 0;simp[bc,<-this]
theorem Ta(t:ar)(v:NV)(l:List ch)(h:l.length<=1000000)(a:0<=t.aR)(b:t.aR<=1000000)(d:bJ 2000 v.q)(c:∀o∈l,uG o):
 aB prog 205 [bU t,.seq (l.map bC),fy v] (.bool (!l.any (fun o=>decide (gN t.aR (vP o.pt) v.q<0)))):=by
 have k1:=S0 t v l h a b d c;generalize (l.any (fun o=>decide (gN t.aR (vP o.pt) v.q<0)))=y at*;refine aJ nf (i_ func205) mix (by simp[f205]) ?_;simp[f205,aa];refine cf k1 [0,1] ?_;simp[aa,bc]
theorem S8(p o:ch):cC prog 199 [.box false (.p (bC p))] [.p (bC o),.ptr 0 []] [.box false (.p (bC p))] (.p (.bool (decide (o.name=p.name)))):=by
 refine fk nf (i_ func199) mix (by simp[f199]) ?_
 by_cases h:o.name=p.name
 ·simp[f199,aa,h];exact cR.og s_ s_ s_ s_ s_
 ·simp[f199,aa,h];exact cR.og s_ s_ s_ s_ s_
theorem S4(p:ch)(l:List ch)(h:l.length<=1000000):
 cC prog 261 [.box false (.p (bC p))] [.p (.seq (l.map bC)),.func 199 [] [.ptr 0 []]] [.box false (.p (bC p))] (.p (.int .i64 (idxFrom (fun o=>decide (o.name=p.name)) l 0))):=by
 refine fk nf (i_ func261) mix (by simp[f261]) ?_;simp[f261];refine lp (α:=Nat) (fun i=>⟨[(8,.p (.int .i64 i)),(7,.p (.int .i64 l.length)),(1,.func 199 [] [.ptr 0 []]),(0,.p (.seq (l.map bC)))],[.box false (.p (bC p))]⟩) (fun i=>i<=l.length/\idxFrom (fun o=>decide (o.name=p.name)) l 0=idxFrom (fun o=>decide (o.name=p.name)) (l.drop i) i) (fun i=>l.length-i) 0 s_ ?_;rintro i ⟨k1,k2⟩;have a:=b6 (i:=i) o_
 by_cases hi:i<l.length
 ·rw[b4 hi,idxFrom]at k2;simp[hi];refine cf (S8 p l[i]) [0] ?_
  by_cases hk:l[i].name=p.name
  ·simp[hk]at k2;simp[hk,k2,bc]
  ·simp[hk]at k2;simp[hk,a,bc];exact rd (i+1) ⟨hi,k2⟩
 ·have:i=l.length:=by omega
  subst this;simp[idxFrom]at k2;simp[k2]
theorem SZ(p:ch)(l:List ch)(h:l.length<=1000000):
 cC prog 198 [.box false (.p (bC p))] [.p (.seq (l.map bC)),.func 199 [] [.ptr 0 []]] [.box false (.p (bC p))] (.p (.bool (l.any (fun o=>decide (o.name=p.name))))):=by
 refine fk nf (i_ func198) mix (by simp[f198]) ?_;simp[f198];refine cf (S4 p l h) [0] ?_;have:=oZ (fun o=>decide (o.name=p.name)) l 0;simp[bc,<-this]
def uZ(r:Int)(a:List ch)(v:V2):Bool:=a.any (fun o=>decide (gN r (vP o.pt) v<0))
def Az(t:ar)(a:List ch)(s:ch):Int:=bK [aU (decide (t.on (vP s.pt)<0)) 16,aU (a.any (fun o=>decide (gN t.aR (vP o.pt) (vP s.pt)<0))) 17]
theorem S1(t:ar)(a:List ch)(s:ch):fK t a s=if jj a s=0 then Az t a s else jj a s:=by
 rw[fK,jj,Az];generalize t.on (vP s.pt)=y;generalize ez s.pt=d;generalize (a.any fun o=>decide (o.name=s.name))=e;generalize (a.any fun o=>decide (gN t.aR (vP o.pt) (vP s.pt)<0))=f;generalize isName s.name=g;cases g
 ·simp[bK,aU]
 cases e
 case true=>simp[bK,aU]
 by_cases b:d=0
 case neg=>simp[bK,aU,b]
 by_cases c:y<0
 ·simp[bK,aU,b,c]
 cases f
 ·simp[bK,aU,b,c]
 ·simp[bK,aU,b,c]
theorem aya(t:ar)(s:ch)(a:List ch)(x:t.cs.length<=1000000)(j:gz t=0)(hs:nB s)(i:a.length<=1000000)(w:∀o∈a,uG o):
 cC prog 197 [.box false (.p (bU t))] [.p (bC s),.p (.seq (a.map bC)),.ptr 0 []] [.box false (.p (bU t))] (.p (.int .i64 (fK t a s))):=by
 obtain⟨_,_,z,_⟩:=sO j;obtain⟨L,M⟩:=mP j;obtain⟨F,m⟩:=hs;have k1:=SZ s a i;have k2:=Bl s.name F.1;have k3:=iR (!isName s.name) 8;have k4:=iR (a.any fun o=>decide (o.name=s.name)) 9;have k6:=u7 s.pt m;have k8:=qE [aU (!isName s.name) 8,aU (a.any fun o=>decide (o.name=s.name)) 9,ez s.pt] s_;have b:=FF (bef:=a) (s:=s);rw[S1];have A:=fun h:jj a s=0=>Eo s.pt (jr (b h)).1 (jr (b h)).2 m;have k:=fun h:jj a s=0=>P7 t (.from s.pt) x z (BO ⟨(gM (jr (b h)).1).mono (by decide),(gM (jr (b h)).2).mono (by decide)⟩);have B:=iR (decide (t.on (vP s.pt)<0)) 16;have l:jj a s=0->aB prog 205 [bU t,.seq (a.map bC),fy (.from s.pt)] (.bool (!uZ t.aR a (NV.from s.pt).q)):=fun h=>Ta t (.from s.pt) a i o_ o_ (BO ⟨gM (jr (b h)).1,gM (jr (b h)).2⟩) w;have C:=iR (uZ t.aR a (vP s.pt)) 17;have d:=qE [aU (decide (t.on (vP s.pt)<0)) 16,aU (uZ t.aR a (vP s.pt)) 17] s_;simp only[iW]at k l;have f:jj a s=bK [aU (!isName s.name) 8,aU (a.any fun o=>decide (o.name=s.name)) 9,ez s.pt]:=rfl;have g:Az t a s=bK [aU (decide (t.on (vP s.pt)<0)) 16,aU (uZ t.aR a (vP s.pt)) 17]:=rfl;rw[<-f]at k8;rw[<-g]at d;clear f g b;generalize jj a s=e at*;generalize Az t a s=v at*;generalize uZ t.aR a (vP s.pt)=r at*;generalize t.on (vP s.pt)=y at*;generalize ez s.pt=G at*;generalize (a.any fun o=>decide (o.name=s.name))=n at*;generalize isName s.name=u at*;generalize NV.from s.pt=v1 at*;refine fk nf (i_ func197) mix (by simp[f197]) ?_;have E:aB prog 200 [.seq [.int .i64 (aU (!u) 8),.int .i64 (aU n 9),.int .i64 G]] (.int .i64 e):=by simpa using k8
 have D:aB prog 200 [.seq [.int .i64 (aU (decide (y<0)) 16),.int .i64 (aU r 17)]] (.int .i64 v):=by simpa using d
 clear k8 d;generalize H:aU (!u) 8=w1 at*;generalize I:aU n 9=N at*;generalize J:aU (decide (y<0)) 16=O at*;generalize K:aU r 17=P at*;simp[f197,aa];refine cf k1 [1] ?_;simp[aa,bc,sig];refine e1_ k2 ?_;simp[aa];refine e2_ k3 ?_;simp[aa];refine e2_ k4 ?_;simp[aa];refine e1_ k6 ?_;simp[aa];refine ep E (by simp;first|exact⟨rfl,rfl⟩|rfl) (by simp;first|exact⟨rfl,rfl⟩|rfl) ?_;simp[aa];refine⟨by repeat' first|rfl|apply am,?_⟩
 by_cases c:e=0
 case neg=>
  simp[c,aa];exact cR.og s_ s_ s_ s_ s_
 simp[c,aa];refine c1_ (A c) ?_;simp[aa];refine e2_ (k c) ?_;simp[aa];refine e2_ B ?_;simp[aa];refine e3_ (l c) ?_;simp[aa];refine e2_ C ?_;simp[aa];refine ep D (by simp;first|exact⟨rfl,rfl⟩|rfl) (by simp;first|exact⟨rfl,rfl⟩|rfl) ?_;simp[aa];refine⟨by repeat' first|rfl|apply am,?_⟩;exact⟨fun h=>(h c).elim,cR.og s_ s_ s_ s_ s_⟩
theorem KA(l:List ch):fa prog 3 (l.map (AV.p∘bC)):=zA (fun r=>⟨by simp[aa],by simp[aa]⟩) l
theorem ayb(t b:ar)(h:t.cs.length<=1000000)(l:gz t=0)(c:gf b):
 cC prog 196 [.box false (.p (bU t))] [.p (.seq (b.ak.map bC)),.p (.int .i64 24),.func 197 [] [.ptr 0 []]] [.box false (.p (bU t))] (.p (.int .i64 (qf t b))):=by
 obtain⟨n,d⟩:=c;refine fk nf (i_ func196) mix (by simp[f196]) ?_;rw[qf]
 by_cases c1:24<b.ak.length
 ·have cI:(24:Int)<b.ak.length:=by omega
  rw[if_pos c1];simp[f196,cI]
 have e:¬(24:Int)<b.ak.length:=o_
 rw[if_neg c1];simp[f196,e];refine lp (α:=Nat) (fun i=>⟨[(16,.p (.int .i64 i)),(15,.p (.int .i64 b.ak.length)),(14,.p (.seq (b.ak.map bC))),(2,.func 197 [] [.ptr 0 []]),(0,.p (.seq (b.ak.map bC)))],[.box false (.p (bU t))]⟩) (fun i=>i<=b.ak.length/\∀j,j<i->fU (fK t) b.ak j=0) (fun i=>b.ak.length-i) 0 s_ ?_;rintro i ⟨k1,k2⟩
 by_cases hk:i<b.ak.length
 ·have gk:=ar.dU hk;have m:=b6 (i:=i) o_;have a:=aya t (b.sp i) (b.ak.take i) h l (d _ (b3 gk)) (by rw[da];omega) (fun o k=>by
   obtain⟨j,f,rfl⟩:=cb.1 k;rw[da]at f;rw[ej];have:=k2 j o_;have g:=ar.dU (t:=b) (i:=j) o_;rw[fU,g]at this;rw[ar.jD o_];exact⟨d _ (b3 g),Bv this⟩)
  rw[ew]at a
  by_cases he:fK t (b.ak.take i) (b.sp i)=0
  ·rw[he]at a;have:=sS k2 gk he;simp[hk,gk,aa];refine⟨⟨k1,KA _⟩,?_⟩;refine ef a [0] ?_;simp[m,aa,bc,sig];exact rd (i+1) ⟨hk,this⟩
  ·have c:=sT k2 gk he;rw[c];simp[hk,gk,aa];refine⟨⟨k1,KA _⟩,?_⟩;refine ef a [0] ?_;simp[he,aa,bc,sig];exact cR.og s_ s_ s_ s_ s_
 ·have:i=b.ak.length:=by omega
  subst this;rw[mM.2 k2];simp
theorem F7(t b:ar)(a:iB t)(c:gf b):aB prog 105 [bU t,.seq (b.ak.map bC)] (.int .i64 (fw t b)):=by
 have k1:=So t a;refine aJ nf (i_ func105) mix (by simp[f105]) ?_;rw[fw]
 by_cases h:gz t=0
 ·rw[if_neg (by simp[h])];have k2:=ayb t b a.cl h c;rw[h]at k1;simp[f105,aa];refine c1_ k1 ?_;simp[aa];refine cf k2 [0] ?_;simp[aa,bc]
 ·rw[if_pos h];generalize gz t=e at*;simp[f105,aa];refine c1_ k1 ?_;simp[h,aa]
theorem ar.BM(t:ar)(v:V2):∀m,t.kr v m<=0↔∃i,i<m/\t.side i v<=0
 |0=>⟨fun h=>by have:t.kr v 0=1:=rfl;omega,fun⟨i,h,_⟩=>by omega⟩
 |m+1=>by
  rw[ar.xw];have c:=ar.BM t v m;constructor
  ·intro h;rcases b2 0 (t.kr v m)with b|b
   ·exact⟨m,o_,o_⟩
   ·obtain⟨i,d,a⟩:=c.1 b;exact⟨i,o_,a⟩
  ·rintro⟨i,d,a⟩
   by_cases e:i=m
   ·subst e;omega
   ·have:=c.2 ⟨i,o_,a⟩;omega
theorem TC(t:ar)(v:NV)(o:t.cs.length<=1000000)(d:∀p∈t.cs,dV p)(m:bJ 3000 v.q):aB prog 186 [bU t,bP v] (.bool (decide (0<t.on v.q))):=by
 refine aJ nf (i_ func186) mix (by simp[f186]) ?_;obtain⟨k,hk,l,n⟩:=vZ (fun i=>decide (0<t.side i v.q)) t.cs.length;simp[f186,aa];refine c1 (F4 t) ?_;simp;refine RA (FG t o d) rfl s_ (fun L i=>fu t v false L) (fun L i=>fu t v false L++iQ t i) k (by simpa using hk) (fun L=>rfl) ?_ ?_ ?_
 ·intro L a i hi;refine⟨rfl,by simp[fu],fun _ hx=>?_⟩;simp[fu]at hx⊢;exact hx
 ·intro L a i x hi hx;rw[sR o_]at hx;injection hx with hx
  subst hx;refine⟨?_,s_,fun j _ h=>h,rfl,by simp[fu,iQ]⟩;obtain⟨a1,a2,a3⟩:=xC d m (show i<t.cs.length by omega);have hs:0<t.side i v.q:=by have:=l i hi;simp at this;omega
  have f:¬t.side i v.q<=0:=o_
  refine sQ nf mix a rfl rfl k_ ?_;have b:=congrArg dK.env a;dsimp only at b;clear a;generalize v.sub (cA (t.at i))=U at*;generalize (t.eO i).dx U=C at*;simp[fu,nG,iQ,aa];refine e2 a1 ?_;simp[aa];refine e2 a2 ?_;simp[aa];refine e1 a3 ?_;simp[aa,hs,f];refine cR.og s_ s_ s_ s_ ?_;simp;exact xH b s_
 ·intro L a;rcases n with c|⟨c,g⟩
  ·refine .inl ⟨by simpa using c,?_⟩;have e:0<t.on v.q:=by
    have:¬t.on v.q<=0:=by
     rw[ar.on,ar.BM];rintro⟨i,r,s⟩;have:=l i o_;simp at this;omega
    omega
   simp[fu,e]
  ·have hs:t.side k v.q<=0:=by simp at g;exact g
   have f:¬0<t.side k v.q:=o_
   have e:¬0<t.on v.q:=by
    have:t.on v.q<=0:=by
     rw[ar.on,ar.BM];exact⟨k,c,hs⟩
    omega
   obtain⟨a1,a2,a3⟩:=xC d m c;refine .inr ⟨nG t k,.ret,fu t v false (L.dn .ret)++iQ t k,fu t v false (L.dn .ret),sR c,rfl,?_,by simp[fu],fun j _ h=>?_,rfl,by simp[fu,iQ],?_,?_⟩
   ·refine sQ nf mix a rfl rfl k_ ?_;have b:=congrArg dK.env a;dsimp only at b;clear a;generalize v.sub (cA (t.at k))=U at*;generalize (t.eO k).dx U=C at*;simp[fu,nG,iQ,aa];refine e2 a1 ?_;simp[aa];refine e2 a2 ?_;simp[aa];refine e1 a3 ?_;simp[aa,hs,f];refine cR.og s_ s_ s_ s_ ?_;simp;exact xJ b s_
   ·have:=b3 h;simp[fu,iQ]at this
   ·have b:=congrArg dK.env a;dsimp only at b;simp[fu];exact xJ b s_
   ·simp[fu,e,je]
noncomputable def mB(l:List ch):List (PV×PV):=l.map (fun s=>(.str s.name,bP (.from s.pt)))
def dB(l:List ch)(n:List Nat):Option ch:=l.find? (fun s=>decide (s.name=n))
theorem H9(a b:List Nat):jT (.str a) (.str b)=some (decide (b=a)):=by
 rw[jT]
 by_cases h:b=a
 ·simp[h]
 ·simp[h];exact fun e=>h e.symm
@[simp] theorem H8(T:TypeId)(q:List Nat):∀l:List ch,fN prog T (mB l) (.str q)=some ((dB l q).map (fun s=>bP (.from s.pt)))
 |[]=>rfl
 |p::r=>by
  have:=H8 T q r;rw[mB]at this;rw[mB,cx,fN,oR,H9,dB,gb]
  ·by_cases h:p.name=q
   ·simp[h]
   ·simp[h,this,dB]
  ·intro u fs h;cases h
theorem HT(q:ch):∀{l:List ch},dB l q.name=none->gh (mB l) (.str q.name) (bP (.from q.pt))=mB (l++[q])
 |[],_=>rfl
 |p::r,h=>by
  rw[dB,gb]at h
  by_cases e:p.name=q.name
  ·simp[e]at h
  ·simp[e]at h;have:=HT q (l:=r) (by rw[dB,e6];simpa using h);rw[mB]at this⊢;rw[cx,gh,H9,this];simp[e,mB]
noncomputable def lH(t b:ar):PV:=.st 125 [bU t,.seq (b.ak.map bC),.eg (mB b.ak),eF (.width t.aR)]
@[simp] theorem aOO(t b:ar):aL (lH t b)=.agg 125:=rfl
@[simp] theorem aNe(t b:ar):bY (lH t b)=[bU t,.seq (b.ak.map bC),.eg (mB b.ak),eF (.width t.aR)]:=rfl
@[simp] theorem aMC:prog.cellsOf 125=10:=k_
structure oW(b:ar):Prop where
 sl:b.ak.length<=24
 sp:∀s∈b.ak,uG s
 ne:∀i,i<b.ak.length->dB (b.ak.take i) (b.sp i).name=none
theorem qJ{t b:ar}(l:gf b)(h:fw t b=0):gz t=0/\oW b/\(∀s∈b.ak,0<=t.on (vP s.pt)):=by
 rw[fw]at h
 by_cases c:gz t=0
 case neg=>rw[if_pos c]at h;exact absurd h c
 rw[if_neg (by simp[c]),qf]at h
 by_cases f:24<b.ak.length
 ·rw[if_pos f]at h;omega
 rw[if_neg f]at h;have k:=mM.1 h;have d:∀i,i<b.ak.length->fK t (b.ak.take i) (b.sp i)=0:=fun i hi=>by
  have:=k i hi
  rwa [fU,ar.dU hi]at this
 refine⟨c,⟨o_,fun s hs=>?_,fun i hi=>?_⟩,fun s hs=>?_⟩
 ·obtain⟨j,a,rfl⟩:=cb.1 hs;rw[ar.jD a];exact⟨l.sp _ (b3 (ar.dU a)),Bv (d j a)⟩
 ·have:=d i hi;rw[fK]at this
  split at this
  ·omega
  split at this
  ·omega
  rename_i g;rw[dB,e6];intro x hx e;exact g (ck.2 ⟨x,hx,e⟩)
 ·obtain⟨j,a,rfl⟩:=cb.1 hs;rw[ar.jD a];have:=d j a;rw[fK]at this
  split at this
  ·omega
  split at this
  ·omega
  split at this
  ·contradiction
  split at this
  ·omega
  omega
def u4:PV:=.st 125 [.st 42 [.aO,.int .i64 0,.aO,.aO],.aO,.ft,.st 123 [.st 121 [.int .i64 0,.aO],.st 121 [.int .i64 0,.aO]]]
@[simp] theorem aPp:aL u4=.agg 125:=rfl
theorem BI(t b:ar)(f:0<=t.aR)(g:t.aR<=1000000)(j:oW b):aB prog 108 [bU t,.seq (b.ak.map bC)] (lH t b):=by
 obtain⟨q,k,e⟩:=j;have k1:=Z7 t.aR f g;refine aJ nf (i_ func108) mix (by simp[f108]) ?_;rw[lH];simp[f108,aa];refine e1 k1 ?_;simp[aa];refine⟨rfl,?_⟩;refine lp (α:=Nat) (fun i=>⟨[(17,.p (.int .i64 i)),(16,.p (.int .i64 b.ak.length)),(15,.p (.seq (b.ak.map bC))),(5,.ptr 3 []),(4,.ptr 1 [])],[.box false (.p (bU t)),.box false (.p u4),.map false (mB (b.ak.take i)),.box false (.st 125 [.p (bU t),.p (.seq (b.ak.map bC)),.map 2,.p (eF (.width t.aR))])]⟩) (fun i=>i<=b.ak.length) (fun i=>b.ak.length-i) 0 s_ ?_ (hh:=by simp[u4,mB]);rintro i i1
 by_cases hi:i<b.ak.length
 ·have a:=ar.dU hi;have m:=b6 (i:=i) o_;obtain⟨⟨s,n⟩,o⟩:=k _ (b3 a);obtain⟨g1,g2⟩:=jr o;have h:=Ed (b.sp i).pt g1 g2 n;have d:=HT (b.sp i) (e i hi);have l:b.ak.take (i+1)=b.ak.take i++[b.sp i]:=by rw[c9,a];rfl
  have c:=H8 9 (b.sp i).name (b.ak.take i);rw[e i hi]at c;rw[<-l]at d;generalize NV.from (b.sp i).pt=r at*;simp[hi,a,aa];refine e1 h ?_;simp[c,d,m,aa];exact rd (i+1) o_
 ·have:i=b.ak.length:=by omega
  subst this;simp[aa]
theorem Tz(l:List (List Nat))(s:List Nat)(h:l.length<=1000000):aB prog 269 [.seq (l.map .str),.str s] (.int .i64 (idxFrom (fun o=>decide (o=s)) l 0)):=by
 refine aJ nf (i_ func269) mix (by simp[f269]) ?_;simp[f269];refine lp (α:=Nat) (fun i=>⟨[(8,.p (.int .i64 i)),(7,.p (.int .i64 l.length)),(1,.p (.str s)),(0,.p (.seq (l.map .str)))],[]⟩) (fun i=>i<=l.length/\idxFrom (fun o=>decide (o=s)) l 0=idxFrom (fun o=>decide (o=s)) (l.drop i) i) (fun i=>l.length-i) 0 s_ ?_;rintro i ⟨k1,k2⟩;have b:=b6 (i:=i) o_
 by_cases hi:i<l.length
 ·rw[b4 hi,idxFrom]at k2
  by_cases hk:l[i]=s
  ·have a:s=l[i]:=hk.symm;simp[hk]at k2;simp[hi,<-a,k2]
  ·have a:¬s=l[i]:=fun e=>hk e.symm;simp[hk]at k2;simp[hi,a,b];exact rd (i+1) ⟨hi,k2⟩
 ·have:i=l.length:=by omega
  subst this;simp[idxFrom]at k2;simp[k2]
theorem Ti(l:List (List Nat))(s:List Nat)(h:l.length<=1000000):aB prog 207 [.seq (l.map .str),.str s] (.bool (decide (s∈l))):=by
 have k:=Tz l s h;have e:=oZ (fun o=>decide (o=s)) l 0;have e2:(l.any fun o=>decide (o=s))=decide (s∈l):=by
  rw[a7];simp
 rw[e2]at e;refine aJ nf (i_ func207) mix (by simp[f207]) ?_;rw[<-e];generalize idxFrom (fun o=>decide (o=s)) l 0=y at*;simp[f207];refine c2 k ?_;simp
def lP(r:Int)(a p q:V2):Bool:=
 if eU ((a.sub p).dot (q.sub p))<=0 then decide (dO ((a.sub p).dot (a.sub p)) (jO r)<0)
 else if 0<=dO ((a.sub p).dot (q.sub p)) ((q.sub p).dot (q.sub p))then decide (dO ((a.sub q).dot (a.sub q)) (jO r)<0)
 else decide (dO ((q.sub p).dx (a.sub p)*(q.sub p).dx (a.sub p)) (jO r*(q.sub p).dot (q.sub p))<0)
theorem H3(t b:ar)(a p q:NV)(n:0<=t.aR)(o:t.aR<=1000000)(g:bJ 300 a.q)(h:bJ 300 p.q)(hq:bJ 300 q.q):
 aB prog 190 [lH t b,bP a,bP p,bP q] (.bool (lP t.aR a.q p.q q.q)):=by
 have c:=kg hq h;have d:=kg g h;have f:=kg g hq;rw[<-NV.fO]at c d f;have of:=B0 n o;have k:=s9 d c;have i:=s9 c c;have l:=s9 d d;have m:=s9 f f;have e:=Fk c d;have k1:=qh q p (hq.mono (by decide)) (h.mono (by decide));have k2:=qh a p (g.mono (by decide)) (h.mono (by decide));have k3:=Ea (a.sub p) (q.sub p) (d.mono (by decide)) (c.mono (by decide));have k4:=ud ((a.sub p).dot (q.sub p));have k5:=Ca (a.sub p) (d.mono (by decide));have k6:=nv ((a.sub p).dot (a.sub p)) (.width t.aR) (by rw[NV.kX];exact l.mono (by decide)) (of.mono (by decide));have k7:=Ca (q.sub p) (c.mono (by decide));have k8:=nv ((a.sub p).dot (q.sub p)) ((q.sub p).dot (q.sub p)) (by rw[NV.kX];exact k.mono (by decide)) (by rw[NV.kX];exact i.mono (by decide));have k9:=qh a q (g.mono (by decide)) (hq.mono (by decide));have EJ:=Ca (a.sub q) (f.mono (by decide));have AQ:=nv ((a.sub q).dot (a.sub q)) (.width t.aR) (by rw[NV.kX];exact m.mono (by decide)) (of.mono (by decide));have EK:=Fx (q.sub p) (a.sub p) (c.mono (by decide)) (d.mono (by decide));have EL:=jQ ((q.sub p).dx (a.sub p)) ((q.sub p).dx (a.sub p)) (by rw[NV.sP];exact e.mono (by decide)) (by rw[NV.sP];exact e.mono (by decide));have EM:=jQ (.width t.aR) ((q.sub p).dot (q.sub p)) (of.mono (by decide)) (by rw[NV.kX];exact i.mono (by decide));have AR:=nv (((q.sub p).dx (a.sub p)).mul ((q.sub p).dx (a.sub p))) (NF.mul (.width t.aR) ((q.sub p).dot (q.sub p))) (by
  show bL kB (((q.sub p).dx (a.sub p)).q*((q.sub p).dx (a.sub p)).q);rw[NV.sP];exact(gC e e).mono (by decide)) (by
  show bL kB (jO t.aR*((q.sub p).dot (q.sub p)).q);rw[NV.kX];exact(gC of i).mono (by decide))
 have e1:((a.sub p).dot (q.sub p)).q=(a.q.sub p.q).dot (q.q.sub p.q):=by rw[NV.kX,NV.fO,NV.fO]
 have e2:((a.sub p).dot (a.sub p)).q=(a.q.sub p.q).dot (a.q.sub p.q):=by rw[NV.kX,NV.fO]
 have e3:((q.sub p).dot (q.sub p)).q=(q.q.sub p.q).dot (q.q.sub p.q):=by rw[NV.kX,NV.fO]
 have e4:((a.sub q).dot (a.sub q)).q=(a.q.sub q.q).dot (a.q.sub q.q):=by rw[NV.kX,NV.fO]
 have e5:(((q.sub p).dx (a.sub p)).mul ((q.sub p).dx (a.sub p))).q=(q.q.sub p.q).dx (a.q.sub p.q)*(q.q.sub p.q).dx (a.q.sub p.q):=by
  show((q.sub p).dx (a.sub p)).q*((q.sub p).dx (a.sub p)).q=_;rw[NV.sP,NV.fO,NV.fO]
 have j:(NF.mul (.width t.aR) ((q.sub p).dot (q.sub p))).q=jO t.aR*(q.q.sub p.q).dot (q.q.sub p.q):=by
  show jO t.aR*((q.sub p).dot (q.sub p)).q=_;rw[e3]
 rw[e1]at k4 k8;rw[e2,H6]at k6;rw[e3]at k8;rw[e4,H6]at AQ;rw[e5,j]at AR;rw[<-eU]at k4;rw[lP];clear e1 e2 e3 e4 e5 j c d f of k i l m e;generalize eU ((a.q.sub p.q).dot (q.q.sub p.q))=s1 at*;generalize dO ((a.q.sub p.q).dot (q.q.sub p.q)) ((q.q.sub p.q).dot (q.q.sub p.q))=s2 at*;generalize dO ((a.q.sub p.q).dot (a.q.sub p.q)) (jO t.aR)=z at*;generalize dO ((a.q.sub q.q).dot (a.q.sub q.q)) (jO t.aR)=A at*;generalize dO ((q.q.sub p.q).dx (a.q.sub p.q)*(q.q.sub p.q).dx (a.q.sub p.q)) (jO t.aR*(q.q.sub p.q).dot (q.q.sub p.q))=B at*;generalize (NF.mul (.width t.aR) ((q.sub p).dot (q.sub p)))=r at*;generalize ((q.sub p).dx (a.sub p)).mul ((q.sub p).dx (a.sub p))=s at*;generalize (q.sub p).dx (a.sub p)=u at*;generalize (a.sub q).dot (a.sub q)=v at*;generalize (a.sub p).dot (a.sub p)=w at*;generalize (q.sub p).dot (q.sub p)=x at*;generalize (a.sub p).dot (q.sub p)=y at*;generalize a.sub p=v1 at*;generalize q.sub p=v2 at*;generalize a.sub q=v3 at*;refine aJ nf (i_ func190) mix (by simp[f190]) ?_;simp[f190,aa];refine e2_ k1 ?_;simp[aa];refine e2_ k2 ?_;simp[aa];refine⟨by repeat' first|rfl|apply am,?_⟩;refine c2_ k3 ?_;simp[aa];refine c1_ k4 ?_
 by_cases c1:s1<=0
 ·rw[if_pos c1];simp[c1,aa];refine e1_ k5 ?_;simp[aa];refine e2_ k6 ?_;simp[aa]
 rw[if_neg c1];simp[c1,aa];refine e1_ k7 ?_;simp[aa];refine e2_ k8 ?_
 by_cases c2:0<=s2
 ·rw[if_pos c2];simp[c2,aa];refine e2_ k9 ?_;simp[aa];refine e1_ EJ ?_;simp[aa];refine e2_ AQ ?_;simp[aa]
 rw[if_neg c2];simp[c2,aa];refine c2_ EK ?_;simp[aa];refine e2_ EL ?_;simp[aa];refine e1_ k7 ?_;simp[aa];refine e2_ EM ?_;simp[aa];refine e2_ AR ?_;simp[aa]
def Qs(p q:V2):PV:=.st 92 [eV p,eV q]
@[simp] theorem aPg(p q:V2):aL (Qs p q)=.agg 92:=rfl
@[simp] theorem aNE(p q:V2):bY (Qs p q)=[eV p,eV q]:=rfl
def dG(r:Int)(p q:V2)(ex:List (List Nat)):List ch->List Nat
 |[]=>[]
 |s::l=>if !decide (s.name∈ex)&&lP r (vP s.pt) p q then s.name else dG r p q ex l
theorem Hr{b:ar}(a:oW b){i:Nat}(hi:i<b.ak.length):dB b.ak (b.sp i).name=some (b.sp i):=by
 have h:=a.ne i hi;rw[dB]at h⊢;have e:b.ak=b.ak.take i++(b.sp i::b.ak.drop (i+1)):=by
  rw[<-ar.jD hi,<-b4 hi,fb]
 generalize b.sp i=x at*;rw[e,List.find?_append,h];simp
theorem BC(t b:ar)(p q:NV)(ex:List (List Nat))(h:0<=t.aR)(j:t.aR<=1000000)(f:oW b)(l:∀s∈b.ak,bJ 300 (vP s.pt))(k:ex.length<=1000000)(m:bJ 300 p.q)(hq:bJ 300 q.q):
 aB prog 109 [lH t b,bP p,bP q,.seq (ex.map .str)] (.str (dG t.aR p.q q.q ex b.ak)):=by
 have n:=f.sl;refine aJ nf (i_ func109) mix (by simp[f109]) ?_;simp[f109,aa];refine lp (α:=Nat) (fun i=>⟨[(14,.p (.int .i64 i)),(13,.p (.int .i64 b.ak.length)),(12,.p (.seq (b.ak.map bC))),(6,.ptr 2 []),(5,.ptr 1 []),(4,.ptr 0 []),(3,.p (.seq (ex.map .str)))],[.box false (.p (lH t b)),.box false (.p (bP p)),.box false (.p (bP q))]⟩) (fun i=>i<=b.ak.length/\dG t.aR p.q q.q ex b.ak=dG t.aR p.q q.q ex (b.ak.drop i)) (fun i=>b.ak.length-i) 0 s_ ?_;rintro i ⟨i1,i2⟩
 by_cases hi:i<b.ak.length
 ·have d:=ar.dU hi;have g:=b6 (i:=i) o_;rw[b4 hi,dG,ar.jD hi]at i2;have c:=Ti ex (b.sp i).name k;have a:=H3 t b (.from (b.sp i).pt) p q h j (by rw[iW];exact l _ (b3 d)) m hq;rw[iW]at a;have e:=Hr f hi;generalize dG t.aR p.q q.q ex b.ak=R at*
  by_cases hm:(b.sp i).name∈ex
  ·simp[hm]at c i2;simp[hi,d,aa];refine c2_ c ?_;simp[g,aa];exact rd (i+1) ⟨o_,i2⟩
  ·simp[hm]at c i2;cases hk:lP t.aR (vP (b.sp i).pt) p.q q.q
   ·rw[hk]at a i2;simp[hi,d,aa];refine c2_ c ?_;simp[e,aa];refine c4_ a ?_;simp[g,aa];exact rd (i+1) ⟨o_,by simpa using i2⟩
   ·rw[hk]at a i2;simp at i2;simp[hi,d,aa];refine c2_ c ?_;simp[e,aa];refine c4_ a ?_;simp[i2,aa]
 ·have:i=b.ak.length:=by omega
  subst this;simp[dG]at i2;simp[i2,aa]
def lZ(t b:ar)(aw az:List Nat):PV:=.st 28 [df t,.seq (b.ak.map bC),.str aw,.str az]
@[simp] theorem aO7(t b:ar)(aw az:List Nat):aL (lZ t b aw az)=.agg 28:=rfl
@[simp] theorem aNw(t b:ar)(aw az:List Nat):bY (lZ t b aw az)=[df t,.seq (b.ak.map bC),.str aw,.str az]:=rfl
theorem u3(b:ar)(name:List Nat)(k:b.ak.length<=1000000):aB prog 25 [.seq (b.ak.map bC),.str name] (.int .i64 (iH b name)):=by
 refine aJ nf (i_ func25) mix (by simp[f25]) ?_;simp[f25,aa];refine lp (α:=Nat) (fun i=>⟨[(5,.p (.int .i64 i)),(1,.p (.str name)),(0,.p (.seq (b.ak.map bC)))],[]⟩) (fun i=>i<=b.ak.length/\∀j,j<i->¬(b.sp j).name=name) (fun i=>b.ak.length-i) 0 s_ ?_;rintro i ⟨h,d⟩
 by_cases hi:i<b.ak.length
 ·have e:=ar.dU hi;have g:=b6 (i:=i) o_
  by_cases a:(b.sp i).name=name
  ·have:iH b name=i:=by
    have:b.ak.findIdx? (fun s=>decide (s.name=name))=some i:=by
     rw[c6];refine⟨hi,by rw[ar.jD];simp[a],fun j c=>?_⟩;rw[ar.jD];simp[d j c]
    rw[iH,this]
   simp[hi,e,a,this,aa]
  ·simp[hi,e,a,g,aa];exact rd (i+1) ⟨hi,fun j c=>by
    by_cases f:j=i
    ·subst f;exact a
    ·exact d j o_⟩
 ·have:i=b.ak.length:=by omega
  subst this;have:iH b name= -1:=by
   have:b.ak.findIdx? (fun s=>decide (s.name=name))=none:=by
    rw[dz];intro s hs;obtain⟨j,c,rfl⟩:=cb.1 hs;rw[ar.jD];simp[d j c]
   rw[iH,this]
  simp[this,aa]
def hasB(b:ar)(name:List Nat)(i:Nat):Prop:=iH b name=i/\i<b.ak.length/\dB b.ak name=some (b.sp i)
theorem sW(b:ar)(name:List Nat):(∃i,hasB b name i)\/(iH b name= -1/\dB b.ak name=none):=by
 cases h:b.ak.findIdx? (fun s=>decide (s.name=name))with
 |some i=>
  left;have c:=h;rw[c6]at c;obtain⟨a,d,e⟩:=c;refine⟨i,by rw[iH,h],a,?_⟩;rw[dB,List.find?_eq_some_iff_getElem];rw[ar.jD a]at d;exact⟨d,i,a,ar.jD a,fun j f=>by have:=e j f;simpa using this⟩
 |none=>
  right;refine⟨by rw[iH,h],?_⟩;rw[dz]at h;rw[dB,e6];intro s hs;have:=h s hs;simpa using this
def u5(r:Int)(a:V2)(n:Nat):V2:=a.add ((RY n).mul ((2*r:Int):Rat))
structure gV(t b:ar)(aw az:List Nat)(i j:Nat):Prop where
 jE:gz t=0
 tl:t.cs.length<=1000000
 L:oW b
 qj:∀s∈b.ak,bJ 60 (vP s.pt)
 ci:hasB b aw i
 bj:hasB b az j
theorem gV.at{t b:ar}{aw az:List Nat}{i j:Nat}(h:gV t b aw az i j){k:Nat}(hk:k<b.ak.length):eV (vP (b.sp k).pt)=fX (b.sp k).pt/\bJ 60 (vP (b.sp k).pt):=by
 have m:=b3 (ar.dU hk);exact⟨(xO (h.L.sp _ m).2).1,h.qj _ m⟩
theorem Ht{n:Nat}:bJ 8 (RY n):=Cd (Ja (Nat.mod_lt _ (by decide))) _
theorem Hm{r:Int}{a:V2}{n:Nat}(d:0<=r)(e:r<=1000)(b:bJ 60 a):bJ 90 (u5 r a n):=by
 have c:bL 12 ((2*r:Int):Rat):=nu o_ (by decide);exact(Fm b (xt Ht c)).mono (by decide)
theorem Zu(t b:ar)(aw az:List Nat)(i j:Nat)(h:gV t b aw az i j):aB prog 28 [lZ t b aw az] (eV (vP (b.sp i).pt)):=by
 obtain⟨d,a,_⟩:=h.ci;have e:=h.L.sl;have k:=u3 b aw o_;have c:=ar.dU a;rw[d]at k;rw[(h.at a).1];refine aJ nf (i_ func28) mix (by simp[f28]) ?_;simp[f28,aa];refine e2_ k ?_;simp[a,c,aa]
theorem TD(t b:ar)(aw az:List Nat)(i j:Nat)(h:gV t b aw az i j):aB prog 37 [lZ t b aw az] (eV (vP (b.sp j).pt)):=by
 obtain⟨d,a,_⟩:=h.bj;have e:=h.L.sl;have k:=u3 b az o_;have c:=ar.dU a;rw[d]at k;rw[(h.at a).1];refine aJ nf (i_ func37) mix (by simp[f37]) ?_;simp[f37,aa];refine e2_ k ?_;simp[a,c,aa]
def uP(t b:ar)(aw az:List Nat)(cp c a:V2):List Nat×Int:=
 if t.on a<=0 then([],16)
 else if eU ((a.sub cp).dot (c.sub a))<=0 then([],18)
 else if dG t.aR cp a [aw,az] b.ak=[]then([],0)else(dG t.aR cp a [aw,az] b.ak,30)
def fT(t b:ar)(aw az:List Nat)(i j n:Nat):List Nat×Int:=
 uP t b aw az (vP (b.sp i).pt) (vP (b.sp j).pt) (u5 t.aR (vP (b.sp j).pt) n)
def fZ(t b:ar)(aw az:List Nat)(i j m:Nat):List Nat:=(cv m).filter (fun n=>decide ((fT t b aw az i j n).2=0))
theorem TI(t b:ar)(aw az:List Nat)(i j m:Nat):fZ t b aw az i j (m+1)=fZ t b aw az i j m++(if(fT t b aw az i j m).2=0 then[m]else[]):=by
 rw[fZ,ed,fm,<-fZ]
 by_cases h:(fT t b aw az i j m).2=0
 ·simp[h]
 ·simp[h]
theorem BE(t b:ar)(aw az:List Nat)(i j m:Nat):(fZ t b aw az i j m).length<=m:=by
 have:=fd (fun n=>decide ((fT t b aw az i j n).2=0)) (cv m);rw[ei]at this;exact this
def gH(n:Nat):PV:=.int .i64 n
def fV(t b:ar)(aw az:List Nat):PV:=.st 45 [bU t,.seq (b.ak.map bC),.str aw,.str az]
@[simp] theorem aO6(t b:ar)(aw az:List Nat):aL (fV t b aw az)=.agg 45:=rfl
@[simp] theorem aNv(t b:ar)(aw az:List Nat):bY (fV t b aw az)=[bU t,.seq (b.ak.map bC),.str aw,.str az]:=rfl
@[simp] theorem aMG:prog.cellsOf 45=7:=k_
def gn(t b:ar)(aw az:List Nat):Int:=
 if fw t b≠0 then fw t b else if dB b.ak aw=none\/dB b.ak az=none then 10 else if aw=az then 9 else 0
theorem aH5(t b:ar)(aw az:List Nat)(h:fw t b=0):gn t b aw az=bK [aU (!(dB b.ak aw).isSome||!(dB b.ak az).isSome) 10,aU (aw==az) 9]:=by
 rw[gn,if_neg (by simp[h])];cases dB b.ak aw<;>cases dB b.ak az<;>by_cases e:aw=az<;>simp[bK,aU,e]
theorem Th(t b:ar)(aw az:List Nat)(k:iB t)(c:gf b):aB prog 12 [lZ t b aw az] (.int .i64 (gn t b aw az)):=by
 have k1:=GN t b k c;have k2:=u3 b aw c.sl;have k3:=u3 b az c.sl;have w1:bo.wrap (-1)= -1:=rfl;refine aJ nf (i_ func12) mix (by simp[f12]) ?_;rw[gn]
 by_cases h:fw t b=0
 case neg=>
  rw[if_pos h];generalize fw t b=e at*;simp[f12,aa];refine c2_ k1 ?_;simp[h,aa]
 rw[h]at k1;rw[if_neg (by simp[h])];rcases sW b aw with⟨i,i1,i2,i3⟩|⟨i1,i3⟩
 case inr=>
  rw[i1]at k2;rw[if_pos (.inl i3)];simp[f12,aa];refine c2_ k1 ?_;simp[aa];refine c2_ k2 ?_;simp[aa]
 have a:¬(i:Int)<0:=o_
 rw[i1]at k2;rcases sW b az with⟨j,d,l,f⟩|⟨d,f⟩
 case inr=>
  rw[d]at k3;rw[if_pos (.inr f)];simp[f12,aa];refine c2_ k1 ?_;simp[aa];refine c2_ k2 ?_;simp[a,aa];refine c2_ k3 ?_;simp[aa]
 have g:¬(j:Int)<0:=o_
 rw[d]at k3;rw[if_neg (by rw[i3,f];simp)]
 by_cases e:aw=az
 ·rw[if_pos e];simp[f12,aa];refine c2_ k1 ?_;simp[aa];refine c2_ k2 ?_;simp[a,aa];refine c2_ k3 ?_;simp[g,e,aa]
 ·rw[if_neg e];simp[f12,aa];refine c2_ k1 ?_;simp[aa];refine c2_ k2 ?_;simp[a,aa];refine c2_ k3 ?_;simp[g,e,aa]
theorem Tl(t b:ar)(aw az:List Nat)(g:iB t)(a:gf b):aB prog 134 [fV t b aw az] (.int .i64 (gn t b aw az)):=by
 have k1:=F7 t b g a
 by_cases h:fw t b=0
 case neg=>
  rw[gn,if_pos h];refine aJ nf (i_ func134) mix (by simp[f134]) ?_;generalize fw t b=e at*;simp[f134,aa];refine c2_ k1 ?_;simp[h,aa]
 obtain⟨d,f,_⟩:=qJ a h;obtain⟨l,m⟩:=mP d;have k2:=BI t b o_ o_ f;have k3:=qS (!(dB b.ak aw).isSome||!(dB b.ak az).isSome) 10;have k4:=qS (aw==az) 9;have k5:=ID [aU (!(dB b.ak aw).isSome||!(dB b.ak az).isSome) 10,aU (aw==az) 9] s_;rw[<-aH5 t b aw az h]at k5;rw[h]at k1;have i:aB prog 63 [.seq [.int .i64 (aU (!(dB b.ak aw).isSome||!(dB b.ak az).isSome) 10),.int .i64 (aU (aw==az) 9)]] (.int .i64 (gn t b aw az)):=by simpa using k5
 clear k5;refine aJ nf (i_ func134) mix (by simp[f134]) ?_;generalize gn t b aw az=E at*;generalize j:aU (aw==az) 9=w1 at*;generalize k:aU (!(dB b.ak aw).isSome||!(dB b.ak az).isSome) 10=n at*;cases hc:dB b.ak aw<;>cases c:dB b.ak az
 all_goals
  rw[hc,c]at k3;simp at k3;simp[f134,aa];refine c2_ k1 ?_;simp[aa];refine c2_ k2 ?_;simp[hc,c,aa];refine e2_ k3 ?_;simp[aa];refine e2_ k4 ?_;simp[aa];refine ep i (by simp;first|exact⟨rfl,rfl⟩|rfl) (by simp;first|exact⟨rfl,rfl⟩|rfl) ?_;simp[aa];rfl
noncomputable def iv(t b:ar)(aw az:List Nat):PV:=.st 127 [lH t b,fV t b aw az]
@[simp] theorem aPe(t b:ar)(aw az:List Nat):aL (iv t b aw az)=.agg 127:=rfl
@[simp] theorem aNC(t b:ar)(aw az:List Nat):bY (iv t b aw az)=[lH t b,fV t b aw az]:=rfl
def sA(t b:ar)(j n:Nat):NV:=(NV.from (b.sp j).pt).add ((NV.fY (n/8) (kf (n% 8))).times (.int (2*t.aR)))
theorem IA(t b:ar)(j n:Nat):(sA t b j n).q=u5 t.aR (vP (b.sp j).pt) n:=by
 rw[sA,NV.BT,NV.uU,NV.zX,DN];rfl
theorem HQ(t b:ar)(aw az:List Nat)(i j n:Nat)(h:gV t b aw az i j)(g:n<32):
 aB prog 184 [iv t b aw az,.int .i64 n] (bP (sA t b j n)):=by
 obtain⟨m,o⟩:=mP h.jE;have e:=(h.at h.bj.2.1).2;have c:bJ 8 (NV.fY (n/8) (kf (n% 8))).q:=by rw[NV.zX,DN];exact Ht
 have a:bL 12 (NF.int (2*t.aR)).q:=nu o_ (by decide);have k1:=Z6 n g;have k2:=kj (2*t.aR) o_ o_;have k3:=Eh (NV.fY (n/8) (kf (n% 8))) (.int (2*t.aR)) (c.mono (by decide)) (a.mono (by decide));have d:bJ 20 ((NV.fY (n/8) (kf (n% 8))).times (.int (2*t.aR))).q:=by rw[NV.uU];exact xt c a
 have k4:=IB (.from (b.sp j).pt) ((NV.fY (n/8) (kf (n% 8))).times (.int (2*t.aR))) (by rw[iW];exact e.mono (by decide)) (d.mono (by decide));have w:bo.wrap (2*t.aR)=2*t.aR:=aQ _ o_ o_;have f:=h.bj.2.2;rw[sA];clear c a d e;generalize (NV.fY (n/8) (kf (n% 8))).times (.int (2*t.aR))=v1 at*;generalize NV.fY (n/8) (kf (n% 8))=v2 at*;generalize k:NV.add (NV.from (b.sp j).pt) v1=v3 at*;generalize NF.int (2*t.aR)=l at*;refine aJ nf (i_ func184) mix (by simp[f184]) ?_;simp[f184,f,aa];refine e1_ k1 ?_;simp[w,aa];refine e1_ k2 ?_;simp[aa];refine e2_ k3 ?_;simp[aa];refine e2_ k4 ?_;simp[aa]
theorem ayq(t b:ar)(aw az:List Nat)(a:NV)(d:t.cs.length<=1000000)(e:∀p∈t.cs,dV p)(c:bJ 3000 a.q):
 cC prog 185 [.box false (.p (iv t b aw az)),.box false (.p (bP a))] [.ptr 0 [],.ptr 1 []] [.box false (.p (iv t b aw az)),.box false (.p (bP a))] (.p (.int .i64 (aU (!decide (0<t.on a.q)) 16))):=by
 have k1:=TC t a d e c;have k2:=qS (!decide (0<t.on a.q)) 16;generalize decide (0<t.on a.q)=y at*;generalize hw:aU (!y) 16=w at*;refine fk nf (i_ func185) mix (by simp[f185]) ?_;simp[f185,aa];refine c2_ k1 ?_;simp[aa];refine c2_ k2 ?_;simp[aa]
theorem ayt(a c d:NV)(b:bJ 300 a.q)(hc:bJ 300 c.q)(g:bJ 300 d.q):
 cC prog 187 [.box false (.p (bP a)),.box false (.p (bP c)),.box false (.p (bP d))] [.ptr 0 [],.ptr 1 [],.ptr 2 []] [.box false (.p (bP a)),.box false (.p (bP c)),.box false (.p (bP d))] (.p (.int .i64 (aU (decide (eU ((a.q.sub c.q).dot (d.q.sub a.q))<=0)) 18))):=by
 have e:=kg b hc;have f:=kg g b;rw[<-NV.fO]at e f;have k1:=qh a c (b.mono (by decide)) (hc.mono (by decide));have k2:=qh d a (g.mono (by decide)) (b.mono (by decide));have k3:=Ea (a.sub c) (d.sub a) (e.mono (by decide)) (f.mono (by decide));have k4:=ud ((a.sub c).dot (d.sub a));rw[NV.kX,NV.fO,NV.fO,<-eU]at k4;have k5:=qS (decide (eU ((a.q.sub c.q).dot (d.q.sub a.q))<=0)) 18;generalize eU ((a.q.sub c.q).dot (d.q.sub a.q))=y at*;generalize hw:aU (decide (y<=0)) 18=w at*;generalize (a.sub c).dot (d.sub a)=h at*;clear e f;generalize a.sub c=v1 at*;generalize d.sub a=v2 at*;refine fk nf (i_ func187) mix (by simp[f187]) ?_;simp[f187,aa];refine e2_ k1 ?_;simp[aa];refine e2_ k2 ?_;simp[aa];refine e2_ k3 ?_;simp[aa];refine e1_ k4 ?_;simp[aa];refine e2_ k5 ?_;simp[aa]
theorem ayw(t b:ar)(aw az:List Nat)(a c:NV)(i j:Nat)(h:gV t b aw az i j)(d:bJ 300 a.q)(hc:bJ 300 c.q):
 cC prog 189 [.box false (.p (iv t b aw az)),.box false (.p (bP c)),.box false (.p (bP a)),.box false (.p (.str []))] [.ptr 0 [],.ptr 1 [],.ptr 2 [],.ptr 3 []]
  [.box false (.p (iv t b aw az)),.box false (.p (bP c)),.box false (.p (bP a)),.box false (.p (.str (dG t.aR c.q a.q [aw,az] b.ak)))] (.p (.int .i64 (aU (!(dG t.aR c.q a.q [aw,az] b.ak==[])) 30))):=by
 obtain⟨f,g⟩:=mP h.jE;have k1:=BC t b c a [aw,az] o_ o_ h.L (fun s hs=>(h.qj s hs).mono (by decide)) s_ hc d;have e:aB prog 109 [lH t b,bP c,bP a,.seq [.str aw,.str az]] (.str (dG t.aR c.q a.q [aw,az] b.ak)):=k1;have k2:=qS (!(dG t.aR c.q a.q [aw,az] b.ak==[])) 30;clear k1;generalize dG t.aR c.q a.q [aw,az] b.ak=R at*;generalize hw:aU (!(R==[])) 30=w at*;refine fk nf (i_ func189) mix (by simp[f189]) ?_;simp[f189,aa];refine cp e (by simp;first|exact⟨rfl,rfl⟩|rfl) ?_;simp[aa];refine c2_ k2 ?_;simp[aa];exact cR.og s_ s_ s_ s_ s_
def aMg:PV:=.st 42 [.aO,.int .i64 0,.aO,.aO]
def Fh:PV:=.st 45 [aMg,.aO,.str [],.str []]
def Fi:PV:=.st 127 [u4,Fh]
@[simp] theorem aPr:aL Fh=.agg 45:=rfl
@[simp] theorem aPs:aL Fi=.agg 127:=rfl
@[simp] theorem aNH:bY Fi=[u4,Fh]:=rfl
@[simp high] theorem aQt:cB prog 128=some Fi:=k_
theorem xV(t b:ar)(aw az:List Nat)(i:iB t)(c:gf b)(h:gn t b aw az=0):aB prog 58 [fV t b aw az] (.aE [iv t b aw az,.int .i64 0]):=by
 have k1:=Tl t b aw az i c;have a:=h;rw[gn]at a;have g:fw t b=0:=by
  by_cases e:fw t b=0
  ·exact e
  ·rw[if_pos e]at a;exact a
 obtain⟨d,f,_⟩:=qJ c g;obtain⟨j,k⟩:=mP d;have k2:=BI t b o_ o_ f;rw[h]at k1;refine aJ nf (i_ func58) mix (by simp[f58]) ?_;rw[iv];simp[f58,aa];refine c1_ k1 ?_;simp[aa];refine e2_ k2 ?_;simp[aa]
theorem Ep(t b:ar)(aw az:List Nat)(i j n:Nat)(h:gV t b aw az i j)(m:n<32):
 aB prog 101 [iv t b aw az,.int .i64 n] (.aE [.str (fT t b aw az i j n).1,.int .i64 (fT t b aw az i j n).2]):=by
 obtain⟨w,x⟩:=mP h.jE;obtain⟨_,_,o,_⟩:=sO h.jE;have f:=(h.at h.ci.2.1).2;have e:=(h.at h.bj.2.1).2;have k1:=HQ t b aw az i j n h m;have g:=h.ci.2.2;have l:=h.bj.2.2;have d:=Hm (n:=n) (r:=t.aR) o_ o_ e;rw[fT];rw[<-IA]at d⊢;generalize sA t b j n=a at*;have g1:=ayq t b aw az a h.tl o (d.mono (by decide));have g2:=ayt a (.from (b.sp i).pt) (.from (b.sp j).pt) (d.mono (by decide)) (by rw[iW];exact f.mono (by decide)) (by rw[iW];exact e.mono (by decide));have g3:=ayw t b aw az a (.from (b.sp i).pt) i j h (d.mono (by decide)) (by rw[iW];exact f.mono (by decide));rw[iW,iW]at g2;rw[iW]at g3;rw[uP];generalize dG t.aR (vP (b.sp i).pt) a.q [aw,az] b.ak=R at*;generalize eU ((a.q.sub (vP (b.sp i).pt)).dot ((vP (b.sp j).pt).sub a.q))=s1 at*;generalize t.on a.q=y at*;have s:bo.wrap 1=1:=rfl;have u:bo.wrap 2=2:=rfl;have v:bo.wrap 3=3:=rfl;refine aJ nf (i_ func101) mix (by simp[f101]) ?_;simp[f101,aa];refine e2_ k1 ?_;simp[g,l,aa];refine⟨by repeat' first|rfl|apply am,?_⟩;refine lp (α:=Nat) (fun k=>⟨[(37,.p (.int .i64 k)),(36,.p (.int .i64 3)),(35,.sl 5 0 1 0 3),(11,.p (.int .i64 0)),(9,.ptr 4 [])],
  [.box false (.p (iv t b aw az)),.box false (.p (bP a)),.box false (.p (bP (.from (b.sp i).pt))),.box false (.p (bP (.from (b.sp j).pt))),.box false (.p (.str [])),
   .arr .exact 0 1 [.func 185 [] [.ptr 0 [],.ptr 1 []],.func 187 [] [.ptr 1 [],.ptr 2 [],.ptr 3 []],.func 189 [] [.ptr 0 [],.ptr 2 [],.ptr 1 [],.ptr 4 []]]]⟩)
  (fun k=>k<=3/\(0<k->0<y)/\(1<k->¬s1<=0)/\(2<k->R=[])) (fun k=>3-k) 0 s_ ?_
 rintro k ⟨k0,k1,k2,k3⟩;rcases k with _|_|_|k
 ·by_cases c1:0<y
  ·have c:¬y<=0:=by omega
   simp[aU,c1]at g1;simp;refine cf g1 [0,1] ?_;simp[bc,sig,s];exact rd 1 ⟨o_,fun _=>c1,fun h=>by omega,fun h=>by omega⟩
  ·have c:y<=0:=by omega
   simp[aU,c1]at g1;rw[if_pos c];simp;refine cf g1 [0,1] ?_;simp[bc,sig]
 ·have c1:=k1 o_;have c:¬y<=0:=by omega
  rw[if_neg c]
  by_cases c2:s1<=0
  ·simp[aU,c2]at g2;rw[if_pos c2];simp;refine cf g2 [1,2,3] ?_;simp[bc,sig]
  ·simp[aU,c2]at g2;simp;refine cf g2 [1,2,3] ?_;simp[bc,sig,u];exact rd 2 ⟨o_,fun _=>c1,fun _=>c2,fun h=>by omega⟩
 ·have c1:=k1 o_;have c:¬y<=0:=by omega
  have c2:=k2 o_;rw[if_neg c,if_neg c2]
  by_cases c3:R=[]
  ·simp[aU,c3]at g3;rw[if_pos c3];simp;refine cf g3 [0,2,1,4] ?_;simp[bc,sig,v];exact rd 3 ⟨o_,fun _=>c1,fun _=>c2,fun _=>c3⟩
  ·simp[aU,c3]at g3;rw[if_neg c3];simp;refine cf g3 [0,2,1,4] ?_;simp[bc,sig]
 ·have hk:k=0:=by omega
  subst hk;have c1:=k1 o_;have c:¬y<=0:=o_
  have c2:=k2 o_;have c3:=k3 o_;rw[if_neg c,if_neg c2,if_pos c3];simp
theorem ZP(t b:ar)(aw az:List Nat)(i j n:Nat)(h:gV t b aw az i j)(a:n<32):
 aB prog 100 [iv t b aw az,.int .i64 n] (.bool (decide ((fT t b aw az i j n).2=0))):=by
 have k:=Ep t b aw az i j n h a;generalize (fT t b aw az i j n).2=e at*;generalize (fT t b aw az i j n).1=c at*;refine aJ nf (i_ func100) mix (by simp[f100]) ?_
 by_cases he:e=0
 ·simp[f100,aa];refine c2_ k ?_;simp[he,aa]
 ·simp[f100,aa];refine c2_ k ?_;simp[he,aa]
theorem Tn(t b:ar)(aw az:List Nat)(i j:Nat)(h:gV t b aw az i j):
 aB prog 60 [iv t b aw az,.int .i64 32,.func 100 [] []] (.seq ((fZ t b aw az i j 32).map gH)):=by
 have a:=fun n f=>ZP t b aw az i j n h f;refine aJ nf (i_ func60) mix (by simp[f60]) ?_;simp[f60,aa];refine lp (α:=Nat) (fun m=>⟨[(10,.p (.int .i64 m)),(9,.p (.int .i64 32)),(7,.sl 1 (fZ t b aw az i j m).length 1 0 (fZ t b aw az i j m).length),(3,.ptr 0 []),(2,.p (.func 100 [] []))],[.box false (.p (iv t b aw az)),.arr .grow (fZ t b aw az i j m).length 1 ((fZ t b aw az i j m).map (AV.p∘gH))]⟩) (fun m=>m<=32) (fun m=>32-m) 0 s_ ?_ (he:=by simp[fZ]) (hh:=by simp[fZ]);rintro m m1
 by_cases hm:m<32
 ·have d:=b6 (i:=m) o_;have hs:=TI t b aw az i j m;have g:=BE t b aw az i j m;have k:(1000:Nat)<cV:=by decide
  have a:=a m hm;generalize (fT t b aw az i j m).2=e at*;have c:(m:Int)<32:=o_
  by_cases he:e=0
  ·rw[if_pos he]at hs;simp[c,aa];refine c2_ a ?_;simp[he,d,aa];exact⟨o_,rd (m+1) o_ (he:=by simp[hs]) (hh:=by simp[hs,gH])⟩
  ·rw[if_neg he,gc]at hs;simp[c,aa];refine c2_ a ?_;simp[he,d,aa];exact rd (m+1) o_ (he:=by simp[hs]) (hh:=by simp[hs])
 ·have:m=32:=by omega
  subst this;simp[aa]
theorem HR(t b:ar)(aw az:List Nat)(i j:Nat)(d:iB t)(c:gf b)(h:gn t b aw az=0)(a:gV t b aw az i j):
 aB prog 32 [fV t b aw az] (.aE [.seq ((fZ t b aw az i j 32).map gH),.int .i64 0]):=by
 have k1:=xV t b aw az d c h;have k2:=Tn t b aw az i j a;generalize fZ t b aw az i j 32=L at*;refine aJ nf (i_ func32) mix (by simp[f32]) ?_;simp[f32,aa];refine c1_ k1 ?_;simp[aa];refine c3_ k2 ?_;simp[aa]
def oY(n:Nat)(l:List ch):Bool:=!((decide (n<l.length)&&decide (l.length<=24))||decide (26<l.length))&&l.all iy
theorem SV(b:ar)(n:Nat)(t:b.ak.length<=1000000)(u:n<=1000):aB prog 40 [.seq (b.ak.map bC),.int .i64 n] (.bool (oY n b.ak)):=by
 refine aJ nf (i_ func40) mix (by simp[f40]) ?_;have m:oY n b.ak=(!((decide (n<b.ak.length)&&decide (b.ak.length<=24))||decide (26<b.ak.length))&&b.ak.all iy):=rfl;have tail:(n<b.ak.length->¬b.ak.length<=24)->¬26<b.ak.length->oY n b.ak=b.ak.all iy:=fun d a=>by
  rw[m]
  by_cases h:n<b.ak.length
  ·have:=d h;simp[h,this,a]
  ·simp[h,a]
 have loop:(n<b.ak.length->¬b.ak.length<=24)->¬26<b.ak.length->∀i,i<b.ak.length->(iy (b.sp i)=false->oY n b.ak=false):=fun d a i hi h=>by
  rw[tail d a];exact jk (ar.dU hi) h
 generalize oY n b.ak=R at*
 by_cases c1:n<b.ak.length/\b.ak.length<=24
 ·have v:(n:Int)<b.ak.length:=by omega
  have e:(b.ak.length:Int)<=24:=o_
  have k:R=false:=by rw[m];simp[c1]
  simp[f40,aa,c1.1,e,k]
 by_cases c2:26<b.ak.length
 ·have f:(26:Int)<b.ak.length:=by omega
  have e:¬(b.ak.length:Int)<=24:=o_
  have k:R=false:=by rw[m];simp[c2]
  by_cases c3:n<b.ak.length
  ·simp[f40,aa,c3,e,f,k]
  ·simp[f40,aa,c3,f,k]
 have f:¬(26:Int)<b.ak.length:=o_
 have tl:=tail (fun d a=>c1 ⟨d,a⟩) c2;have g:=loop (fun d a=>c1 ⟨d,a⟩) c2;clear tail loop m
 by_cases c3:n<b.ak.length
 all_goals
  have e:n<b.ak.length->¬(b.ak.length:Int)<=24:=fun h=>by omega
  first
  |(have e:=e c3;simp[f40,aa,c3,e,f])
  |simp[f40,aa,c3,f]
  refine lp (α:=Nat) (fun i=>⟨[(5,.p (.int .i64 i)),(0,.p (.seq (b.ak.map bC)))],[]⟩) (fun i=>i<=b.ak.length/\(b.ak.take i).all iy=true) (fun i=>b.ak.length-i) 0 s_ ?_;rintro i ⟨k1,k2⟩
  by_cases hi:i<b.ak.length
  ·have c:=ar.dU hi;have s:=b6 (i:=i) o_;have j:=mJ (b.sp i).pt.x 40;have o:=mJ (b.sp i).pt.y 40;have l:iy (b.sp i)=(decide ((b.sp i).name.length<=40)&&(decide ((b.sp i).pt.x.length<=40)&&decide ((b.sp i).pt.y.length<=40))):=rfl;have g:=g i hi
   by_cases a1:(b.sp i).name.length<=40
   case neg=>
    have b1:(40:Int)<(b.sp i).name.length:=o_
    have:=g (by rw[l];simp[a1]);simp[hi,c,b1,this,aa]
   have b1:¬(40:Int)<(b.sp i).name.length:=o_
   by_cases a2:(b.sp i).pt.x.length<=40
   case neg=>
    have q:¬((b.sp i).pt.x.length:Int)<=40:=o_
    rw[decide_eq_false q]at j;have:=g (by rw[l];simp[a2]);simp[hi,c,b1,aa];refine c2_ j ?_;simp[this,aa]
   have q:((b.sp i).pt.x.length:Int)<=40:=o_
   rw[decide_eq_true q]at j
   by_cases a3:(b.sp i).pt.y.length<=40
   case neg=>
    have r:¬((b.sp i).pt.y.length:Int)<=40:=o_
    rw[decide_eq_false r]at o;have:=g (by rw[l];simp[a3]);simp[hi,c,b1,aa];refine c2_ j ?_;simp[hi,c,aa];refine c2_ o ?_;simp[this,aa]
   have r:((b.sp i).pt.y.length:Int)<=40:=o_
   rw[decide_eq_true r]at o;simp[hi,c,b1,aa];refine c2_ j ?_;simp[hi,c,aa];refine c2_ o ?_;simp[s,aa];exact rd (i+1) ⟨hi,by rw[o6 c,k2,l];simp[a1,a2,a3]⟩
  ·have:i=b.ak.length:=by omega
   subst this;rw[b5]at k2;rw[tl,k2];simp
def lQ(p:fF)(D:Nat):Bool:=fe p.x D&&fe p.y D
def kn(t b:ar)(n D:Nat):Bool:=
 mN t&&(oY n b.ak&&(decide (b.ak.length<=n)&&(decide (fw t b=0)&&(decide (t.ak.length<=8)&&(t.ba.all (fun p=>fe p.a D&&fe p.b D)&&(t.ak.all (fun s=>lQ s.pt D)&&b.ak.all (fun s=>lQ s.pt D)))))))
theorem Zx(t b:ar)(n D:Nat)(I:iB t)(G:gf b)(H:n<=1000)(M:D<=1000):aB prog 42 [df t,.seq (b.ak.map bC),.int .i64 n,.int .i64 D] (.bool (kn t b n D)):=by
 obtain⟨B,C,E,z,A⟩:=I;obtain⟨F,w⟩:=G;have g:=SJ t B C E;have k:=SV b n F H;have L:=GN t b ⟨B,C,E,z,A⟩ ⟨F,w⟩;refine aJ nf (i_ func42) mix (by simp[f42]) ?_;rw[kn];generalize fw t b=e at*;cases u:mN t
 ·rw[u]at g;simp[f42,aa];refine c1_ g ?_;simp[aa]
 rw[u]at g;cases v:oY n b.ak
 ·rw[v]at k;simp[f42,aa];refine c1_ g ?_;simp[aa];refine c2_ k ?_;simp[aa]
 rw[v]at k;simp[f42,aa];refine c1_ g ?_;simp[aa];refine c2_ k ?_
 by_cases l:b.ak.length<=n
 case neg=>
  have q:n<b.ak.length:=o_
  simp[l,q,aa]
 have q:¬n<b.ak.length:=o_
 simp[l,q,aa];refine c2_ L ?_
 by_cases j:e=0
 case neg=>simp[j,aa]
 by_cases m:t.ak.length<=8
 case neg=>
  have r:(8:Int)<t.ak.length:=o_
  simp[j,m,r,aa]
 have r:¬(8:Int)<t.ak.length:=o_
 simp[j,m,r,aa];refine lp (α:=Nat) (fun i=>⟨[(9,.p (.int .i64 i)),(4,.ptr 0 []),(3,.p (.int .i64 D)),(1,.p (.seq (b.ak.map bC)))],[.box false (.p (df t))]⟩) (fun i=>i<=t.ba.length/\(t.ba.take i).all (fun p=>fe p.a D&&fe p.b D)=true) (fun i=>t.ba.length-i) 0 s_ ?_;rintro i ⟨i1,i2⟩
 by_cases hi:i<t.ba.length
 ·have c:=ar.jC hi;have f:=b6 (i:=i) o_;obtain⟨_,J,K⟩:=z _ (b3 c);have d:=Ay (t.pk i).a D J o_;have f2:=Ay (t.pk i).b D K o_;have bad:(fe (t.pk i).a D&&fe (t.pk i).b D)=false->t.ba.all (fun p=>fe p.a D&&fe p.b D)=false:=fun h=>jk c h;cases a1:fe (t.pk i).a D
  ·rw[a1]at d;rw[bad (by rw[a1];rfl)];simp[hi,c,aa];refine c2_ d ?_;simp[aa]
  rw[a1]at d;cases a2:fe (t.pk i).b D
  ·rw[a2]at f2;rw[bad (by rw[a2];simp)];simp[hi,c,aa];refine c2_ d ?_;simp[hi,c,aa];refine c2_ f2 ?_;simp[aa]
  rw[a2]at f2;simp[hi,c,aa];refine c2_ d ?_;simp[hi,c,aa];refine c2_ f2 ?_;simp[f,aa];exact rd (i+1) ⟨hi,by rw[o6 c,i2,a1,a2];rfl⟩
 have:i=t.ba.length:=o_
 subst this;rw[b5]at i2;rw[i2];clear i1 i2 hi;simp[aa];refine lp (α:=Nat) (fun i=>⟨[(10,.p (.int .i64 i)),(4,.ptr 0 []),(3,.p (.int .i64 D)),(1,.p (.seq (b.ak.map bC)))],[.box false (.p (df t))]⟩) (fun i=>i<=t.ak.length/\(t.ak.take i).all (fun s=>lQ s.pt D)=true) (fun i=>t.ak.length-i) 0 s_ ?_;rintro i ⟨i1,i2⟩
 by_cases hi:i<t.ak.length
 ·have c:=ar.dU hi;have f:=b6 (i:=i) o_;have d:=Lw (t.sp i).pt D (A _ (b3 c)).2 o_;have o:lQ (t.sp i).pt D=(fe (t.sp i).pt.x D&&fe (t.sp i).pt.y D):=rfl;rw[<-o]at d;cases a1:lQ (t.sp i).pt D
  ·rw[a1]at d;rw[jk c a1];simp[hi,c,aa];refine c2_ d ?_;simp[aa]
  rw[a1]at d;simp[hi,c,aa];refine c2_ d ?_;simp[f,aa];exact rd (i+1) ⟨hi,by rw[o6 c,i2,a1];rfl⟩
 have:i=t.ak.length:=o_
 subst this;rw[b5]at i2;rw[i2];clear i1 i2 hi;simp[aa];refine lp (α:=Nat) (fun i=>⟨[(11,.p (.int .i64 i)),(3,.p (.int .i64 D)),(1,.p (.seq (b.ak.map bC)))],[]⟩) (fun i=>i<=b.ak.length/\(b.ak.take i).all (fun s=>lQ s.pt D)=true) (fun i=>b.ak.length-i) 0 s_ ?_;rintro i ⟨i1,i2⟩
 by_cases hi:i<b.ak.length
 ·have c:=ar.dU hi;have f:=b6 (i:=i) o_;have d:=Lw (b.sp i).pt D (w _ (b3 c)).2 o_;have o:lQ (b.sp i).pt D=(fe (b.sp i).pt.x D&&fe (b.sp i).pt.y D):=rfl;rw[<-o]at d;cases a1:lQ (b.sp i).pt D
  ·rw[a1]at d;rw[jk c a1];simp[hi,c,aa];refine c2_ d ?_;simp[aa]
  rw[a1]at d;simp[hi,c,aa];refine c2_ d ?_;simp[f,aa];exact rd (i+1) ⟨hi,by rw[o6 c,i2,a1];rfl⟩
 have:i=b.ak.length:=o_
 subst this;rw[b5]at i2;rw[i2];simp[l,j,m,aa]
def sX(t b:ar)(aw az:List Nat)(n:Nat):Bool:=
 decide (aw.length<=40)&&(decide (az.length<=40)&&(mN t&&(oY n b.ak&&(decide (fw t b≠0)||kn t b n 9))))
theorem SW(b:ar)(f:b.ak.length<=1000000):aB prog 19 [.seq (b.ak.map bC)] (.seq (b.ak.map bC)):=by
 have g:(1000000:Nat)<cV:=by decide
 have w1:bo.wrap 1=1:=by decide
 refine aJ nf (i_ func19) mix (by simp[f19]) ?_;simp[f19,aa];refine lp (α:=Nat) (fun i=>⟨[(8,.p (.int .i64 i)),(7,.p (.int .i64 b.ak.length)),(6,.p (.seq (b.ak.map bC))),(3,.sl 0 i 3 0 i)],[.arr .grow i 3 ((b.ak.map (AV.p∘bC)).take i)]⟩) (fun i=>i<=b.ak.length) (fun i=>b.ak.length-i) 0 s_ ?_;rintro i i1
 by_cases hi:i<b.ak.length
 ·have a:=ar.dU hi;have e:=b6 (i:=i) o_;have d:(b.ak.map (AV.p∘bC)).take (i+1)=(b.ak.map (AV.p∘bC)).take i++[.p (bC (b.sp i))]:=by
   rw[c9,en,a];rfl
  have c:min i b.ak.length=i:=o_
  simp[hi,a,e,c,aa];exact⟨o_,rd (i+1) hi (hh:=by simp[d]) (hr2:=by simp[kD])⟩
 ·have:i=b.ak.length:=by omega
  subst this;simp[aa]
theorem ZZ(t b:ar)(aw az:List Nat)(a:iB t)(c:gf b):aB prog 10 [lZ t b aw az] (fV t b aw az):=by
 have k1:=SP t a.cl a.pl a.sl;have k2:=SW b c.sl;refine aJ nf (i_ func10) mix (by simp[f10]) ?_;rw[fV];simp[f10,aa];refine e1_ k1 ?_;simp[aa];refine e1_ k2 ?_;simp[aa]
theorem xT{t b:ar}{aw az:List Nat}(h:gn t b aw az=0):fw t b=0/\dB b.ak aw≠none/\dB b.ak az≠none/\aw≠az:=by
 rw[gn]at h
 by_cases a:fw t b=0
 case neg=>rw[if_pos a]at h;exact absurd h a
 rw[if_neg (by simp[a])]at h
 by_cases c:dB b.ak aw=none\/dB b.ak az=none
 ·rw[if_pos c]at h;omega
 rw[if_neg c]at h
 by_cases d:aw=az
 ·rw[if_pos d]at h;omega
 exact⟨a,fun e=>c (.inl e),fun e=>c (.inr e),d⟩
theorem aGG{t b:ar}{aw az:List Nat}{n:Nat}(m:iB t)(k:gf b)(hs:sX t b aw az n=true)(h:gn t b aw az=0):∃i j,gV t b aw az i j:=by
 obtain⟨a,c,d,_⟩:=xT h;obtain⟨f,g,_⟩:=qJ k a;rw[sX,a]at hs;simp only[ao,a6,decide_eq_true_eq]at hs;obtain⟨_,_,_,_,hs⟩:=hs;have hf:kn t b n 9=true:=by
  rcases hs with hs|hs
  ·exact absurd rfl hs
  ·exact hs
 rw[kn]at hf;simp only[ao,eo]at hf;obtain⟨_,_,_,_,_,_,_,hf⟩:=hf;rcases sW b aw with⟨i,hi⟩|⟨_,e⟩
 case inr=>exact absurd e c
 rcases sW b az with⟨j,l⟩|⟨_,e⟩
 case inr=>exact absurd e d
 refine⟨i,j,f,m.cl,g,fun s hs=>?_,hi,l⟩;have:=hf s hs;rw[lQ,ao]at this;exact⟨(Ax this.1).mono (by decide),(Ax this.2).mono (by decide)⟩
structure xp where
 t:ar
 b:ar
 aw:List Nat
 az:List Nat
def Qq(s:xp):PV:=lZ s.t s.b s.aw s.az
structure Rk(s:xp):Prop where
 t:iB s.t
 b:gf s.b
 aw:ji s.aw
 az:ji s.az
section
variable{H:Type}{W:World}{ad:Nat->Prop}
theorem aJt:∃a b:bl,prog.underlying 77=some (.struct #[a,b])/\a.type=9/\b.type=32:=⟨_,_,underlying77,rfl,rfl⟩
theorem RQ:prog.underlyingId 77=76:=k_
theorem Te{m n:Nat}(s:m=n+2){d:bi H}(h:∃cs,aZ prog W ad (bF prog (m+1) 77 d) cs)(o:Rows.uptoBulk d<=1048576):∃p:ch,bF prog (m+1) 77 d=bC p/\nB p/\2<=Rows.uptoBulk d:=by
 obtain⟨cs,h⟩:=h;obtain⟨f0,f1,g,t0,t1⟩:=aJt;cases d with
 |agg l=>
  have f:∀x∈l,Rows.uptoBulk x<=1048576:=fun x hx=>by
   have:=ql.um hx;rw[Rows.uptoBulk]at o;omega
  simp only[bF,g,aZ]at h⊢;obtain⟨u,t,e,c,_⟩:=h;rw[RQ,RN]at e;cases e
  match l,c with
  |[],c=>simp[bg]at c
  |[x],c=>simp[bg]at c
  |x::y::r,c=>
   have:=xu x;simp only[db,cx,bg,dg,ec,t0,t1]at c⊢;obtain⟨c0,_,_,g1,_,c1,_,_,g2,_⟩:=c;subst s;obtain⟨a,i,k⟩:=uV (n:=n+1) ⟨c0,g1⟩ (f x s_);obtain⟨b,j,q⟩:=J8 (n:=n) ⟨c1,g2⟩ (f y s_);refine⟨⟨a,b⟩,by rw[i,j,RQ];rfl,⟨k,q⟩,?_⟩;rw[Rows.uptoBulk,Rows.uptoBulkAll];omega
 |_=>simp only[bF,g,aZ]at h
theorem aLy:∃a b f2 f3:bl,prog.underlying 29=some (.struct #[a,b,f2,f3])/\a.type=26/\b.type=27/\f2.type=9/\f3.type=9:=⟨_,_,_,_,underlying29,rfl,rfl,rfl,rfl⟩
theorem RV:prog.underlyingId 29=28:=k_
theorem aH7{m n:Nat}(s:m=n+5){d:bi H}(h:∃cs,aZ prog W ad (bF prog (m+1) 29 d) cs)(f:Rows.uptoBulk d<=1048576):∃t:xp,bF prog (m+1) 29 d=Qq t/\True/\Rk t:=by
 obtain⟨cs,h⟩:=h;obtain⟨f0,f1,f2,f3,i,t0,t1,t2,t3⟩:=aLy;cases d with
 |agg l=>
  have e:∀x∈l,Rows.uptoBulk x<=1048576:=fun x hx=>by
   have:=ql.um hx;rw[Rows.uptoBulk]at f;omega
  simp only[bF,i,aZ]at h⊢;obtain⟨E,D,g,c,_⟩:=h;rw[RV,aIx]at g;cases g
  match l,c with
  |[],c=>simp[bg]at c
  |[x],c=>simp[bg]at c
  |[x,y],c=>simp[bg]at c
  |[x,y,z],c=>simp[bg]at c
  |x::y::z::w::r,c=>
   simp only[db,cx,bg,dg,ec,t0,t1,t2,t3]at c⊢;obtain⟨c0,_,_,g0,_,c1,_,_,g1,_,c2,_,_,g2,_,c3,_,_,g3,_⟩:=c;subst s;obtain⟨a,j,_,o⟩:=aIA (n:=n) rfl ⟨c0,g0⟩ (e x s_);obtain⟨b,k,p,C⟩:=xG (n:=n+4) aJs (F:=bC) (ok:=nB) (fun d q f=>Te (n:=n+1) rfl q f) ⟨c1,g1⟩ (e y s_);obtain⟨u,eu,A⟩:=uV (n:=n+4) ⟨c2,g2⟩ (e z s_);obtain⟨v,ev,B⟩:=uV (n:=n+4) ⟨c3,g3⟩ (e w s_);exact⟨⟨a,⟨[],0,[],b⟩,u,v⟩,by rw[j,k,eu,ev,RV];rfl,trivial,o,⟨C,p⟩,A,B⟩
 |_=>simp only[bF,i,aZ]at h
theorem Tp{d:bi H}(h:∃cs,aZ prog W ad (bF prog 8 29 d) cs)(a:Rows.uptoBulk d<=1048576):∃t:xp,bF prog 8 29 d=Qq t/\True/\Rk t:=aH7 (n:=2) rfl h a
end
section
variable{H:Type}{W:World}{ad:Nat->Prop}
theorem aJg{n:Nat}(d:bi H)(c)(h:aZ prog W ad (bF prog (n+1) 5 d) c):∃a:Nat,bF prog (n+1) 5 d=.int .u8 a/\a<256:=by
 cases d with
 |lit l=>
  cases l with
  |int k z=>
   simp only[bF,Fe]at h⊢
   split at h
   ·rename_i b;rw[if_pos b];simp only[Lit.wf,ao,decide_eq_true_eq]at b;have e:(0:Int)<=z:=b.1;have f:z<=255:=b.2;exact⟨z.toNat,by rw[Int.toNat_of_nonneg e],o_⟩
   ·simp only[aZ]at h
  |_=>simp only[bF,Fe,aZ]at h
 |_=>simp only[bF,Fe,aZ]at h
theorem aJf{d:bi H}(h:∃cs,aZ prog W ad (bF prog 8 5 d) cs)(_hb:Rows.uptoBulk d<=1048576):∃z:Nat,bF prog 8 5 d=.int .u8 z/\True/\z<256:=by
 obtain⟨cs,h⟩:=h;obtain⟨a,e,b⟩:=aJg (n:=7) d cs h;exact⟨a,e,trivial,b⟩
end
namespace Hk
mutual
def sL:PV->PV->Bool
 | .int .i64 a,.int .i64 b=>oT a b
 | .int .u64 a,.int .u64 b=>oT a b
 | .bool a,.bool b=>a==b
 | .str a,.str b=>sK a b
 | .aO,.aO=>true
 | .ft,.ft=>true
 | .cT f a,.cT g b=>bif f==g then lU a b else false
 | .seq a,.seq b=>lU a b
 | .eg a,.eg b=>uI a b
 | .st u a,.st v b=>bif gw u v then lU a b else false
 | .aE a,.aE b=>lU a b
 | .func f a b,.func g c d=>bif gw f g then(bif lU a c then lU b d else false)else false
 | .cr a,.cr b=>sL a b
 |_,_=>false
def lU:List PV->List PV->Bool
 |[],[]=>true
 |a::l,b::m=>bif sL a b then lU l m else false
 |_,_=>false
def uI:List (PV×PV)->List (PV×PV)->Bool
 |[],[]=>true
 |(a,c)::l,(b,d)::m=>bif sL a b then(bif sL c d then uI l m else false)else false
 |_,_=>false
end
mutual
theorem vN:∀{a b:PV},sL a b=true->a=b
 |a,b,h=>by
  unfold sL at h
  split at h
  ·rw[zQ h]
  ·rw[zQ h]
  ·rw[eq_of_beq h]
  ·rw[Dd h]
  ·rfl
  ·rfl
  ·rename_i f a g b;cases hf:f==g
   ·rw[hf]at h;cases h
   ·rw[hf,cond_true]at h;rw[eq_of_beq hf,pH h]
  ·rw[pH h]
  ·rw[Mz h]
  ·simp only[ax]at h
   split at h
   ·rename_i i;rw[gg i,pH h]
   ·cases h
  ·rw[pH h]
  ·simp only[ax]at h
   split at h
   ·rename_i i
    split at h
    ·rename_i e;rw[gg i,pH e,pH h]
    ·cases h
   ·cases h
  ·rw[vN h]
  ·cases h
theorem pH:∀{a b:List PV},lU a b=true->a=b
 |[],[],_=>rfl
 |[],_::_,h=>by simp[lU]at h
 |_::_,[],h=>by simp[lU]at h
 |a::l,b::m,h=>by
  simp only[lU,ax]at h
  split at h
  ·rename_i e;rw[vN e,pH h]
  ·cases h
theorem Mz:∀{a b:List (PV×PV)},uI a b=true->a=b
 |[],[],_=>rfl
 |[],_::_,h=>by simp[uI]at h
 |_::_,[],h=>by simp[uI]at h
 |(a,c)::l,(b,d)::m,h=>by
  simp only[uI,ax]at h
  split at h
  ·rename_i e
   split at h
   ·rename_i j;rw[vN e,vN j,Mz h]
   ·cases h
  ·cases h
end
def wu:List (be×List PV×PV)->be->List PV->Option PV
 |[],f,vs=>hk f vs
 |(g,us,v)::r,f,vs=>bif gw g f then(bif lU us vs then some v else wu r f vs)else wu r f vs
def lB:List (be×List PV×PV)->Prop
 |[]=>True
 |(g,us,v)::r=>aB prog g us v/\lB r
theorem vA:∀{l m:List (be×List PV×PV)},lB l->lB m->lB (l++m)
 |[],_,_,h=>h
 |_::_,_,h,a=>⟨h.1,vA h.2 a⟩
theorem Cq:∀{l:List (be×List PV×PV)},lB l->∀f vs v,wu l f vs=some v->aB prog f vs v
 |[],_,f,vs,v,h=>ayU h
 |(g,us,w)::r,a,f,vs,v,h=>by
  simp only[wu,ax]at h
  split at h
  ·rename_i b
   split at h
   ·rename_i hs;simp only[Option.some.injEq]at h;subst h;rw[<-pH hs,<-gg b];exact a.1
   ·exact Cq a.2 f vs v h
  ·exact Cq a.2 f vs v h
def Q8(v:PV):Option PV->Bool
 |some w=>sL v w
 |none=>false
theorem aFI{v:PV}{o:Option PV}(h:Q8 v o=true):o=some v:=by
 cases o with
 |none=>cases h
 |some w=>rw[vN h]
def aHo:be->be->Nat:=fun _ _=>0
theorem cS(l:List (be×List PV×PV))(a:lB l){f:be}{vs:List PV}{v:PV}(h:Q8 v (RE (wu l) aHo f vs)=true):aB prog f vs v:=MZ (Cq a) (aFI h)
end Hk
namespace jF
def T:PV:=.st 42 [.cT true [.st 201 [.int .i64 0,.int .i64 0],.st 201 [.int .i64 2000,.int .i64 0],.st 201 [.int .i64 2000,.int .i64 1000],.st 201 [.int .i64 0,.int .i64 1000]],.int .i64 30,.cT true [.st 82 [.str [97],.int .i64 0,.str [48],.str [49,47,50,48]],.st 82 [.str [99],.int .i64 1,.str [57,47,50,48],.str [49,49,47,50,48]]],.aO]
def B:PV:=.cT true [.st 76 [.str [99,117,101],.st 31 [.str [53,48,48],.str [53,48,48]]],.st 76 [.str [111,110,101],.st 31 [.str [49,48,48,48],.str [53,48,48]]],.st 76 [.str [116,119,111],.st 31 [.str [49,48,48,48],.str [55,48,48]]]]
def aw:PV:=.str [99,117,101]
def one:PV:=.str [111,110,101]
def X:PV:=.st 45 [T,B,aw,one]
def Y:PV:=.st 127 [.st 125 [T,B,.eg [(.str [99,117,101],.st 141 [.st 123 [.st 121 [.int .i64 500,.aO],.st 121 [.int .i64 1,.aO]],.st 123 [.st 121 [.int .i64 500,.aO],.st 121 [.int .i64 1,.aO]]]),(.str [111,110,101],.st 141 [.st 123 [.st 121 [.int .i64 1000,.aO],.st 121 [.int .i64 1,.aO]],.st 123 [.st 121 [.int .i64 500,.aO],.st 121 [.int .i64 1,.aO]]]),(.str [116,119,111],.st 141 [.st 123 [.st 121 [.int .i64 1000,.aO],.st 121 [.int .i64 1,.aO]],.st 123 [.st 121 [.int .i64 700,.aO],.st 121 [.int .i64 1,.aO]]])],.st 123 [.st 121 [.int .i64 3600,.aO],.st 121 [.int .i64 1,.aO]]],.st 45 [T,B,.str [99,117,101],.str [111,110,101]]]
def WR:PV:=.cT false (.int .i64 0::[.int .i64 1,.int .i64 2,.int .i64 3,.int .i64 4,.int .i64 5,.int .i64 6,.int .i64 7,.int .i64 8,.int .i64 9,.int .i64 10,.int .i64 11,.int .i64 12,.int .i64 13,.int .i64 14,.int .i64 15,.int .i64 16,.int .i64 17,.int .i64 18,.int .i64 19,.int .i64 20,.int .i64 21,.int .i64 22,.int .i64 23,.int .i64 24,.int .i64 25,.int .i64 26,.int .i64 27,.int .i64 28,.int .i64 29,.int .i64 30,.int .i64 31,.int .i64 32]++[.int .i64 33,.int .i64 34,.int .i64 35,.int .i64 36,.int .i64 37,.int .i64 38,.int .i64 39,.int .i64 40,.int .i64 41,.int .i64 42,.int .i64 43,.int .i64 44,.int .i64 45,.int .i64 46,.int .i64 47,.int .i64 48,.int .i64 49,.int .i64 50,.int .i64 51,.int .i64 52,.int .i64 53,.int .i64 54,.int .i64 55,.int .i64 56,.int .i64 57,.int .i64 58,.int .i64 59,.int .i64 60,.int .i64 61,.int .i64 62,.int .i64 63,.int .i64 64])
def k0:List (be×List PV×PV):=[]
theorem Ra:Hk.lB k0:=trivial
theorem g1:aB prog 124 [T] (.int .i64 0):=Hk.cS k0 Ra k_
theorem g2:aB prog 105 [T,B] (.int .i64 0):=Hk.cS k0 Ra k_
def k1:List (be×List PV×PV):=[(124,[T],.int .i64 0),(105,[T,B],.int .i64 0)]
theorem Rb:Hk.lB k1:=⟨g1,g2,trivial⟩
theorem g3:aB prog 58 [X] (.aE [Y,.int .i64 0]):=Hk.cS k1 Rb k_
def k2:List (be×List PV×PV):=[(58,[X],.aE [Y,.int .i64 0])]++k1
theorem dY:Hk.lB k2:=Hk.vA (l:=[(58,[X],.aE [Y,.int .i64 0])]) ⟨g3,trivial⟩ Rb
end jF
namespace jF
theorem y0:aB prog 101 [Y,.int .i64 0] (.aE [.str [],.int .i64 18]):=Hk.cS k2 dY k_
theorem y1:aB prog 101 [Y,.int .i64 1] (.aE [.str [],.int .i64 18]):=Hk.cS k2 dY k_
theorem y2:aB prog 101 [Y,.int .i64 2] (.aE [.str [],.int .i64 18]):=Hk.cS k2 dY k_
theorem y3:aB prog 101 [Y,.int .i64 3] (.aE [.str [],.int .i64 18]):=Hk.cS k2 dY k_
theorem y4:aB prog 101 [Y,.int .i64 4] (.aE [.str [],.int .i64 18]):=Hk.cS k2 dY k_
theorem y5:aB prog 101 [Y,.int .i64 5] (.aE [.str [],.int .i64 18]):=Hk.cS k2 dY k_
theorem y6:aB prog 101 [Y,.int .i64 6] (.aE [.str [],.int .i64 18]):=Hk.cS k2 dY k_
theorem y7:aB prog 101 [Y,.int .i64 7] (.aE [.str [],.int .i64 18]):=Hk.cS k2 dY k_
theorem y8:aB prog 101 [Y,.int .i64 8] (.aE [.str [],.int .i64 18]):=Hk.cS k2 dY k_
theorem y9:aB prog 101 [Y,.int .i64 9] (.aE [.str [],.int .i64 0]):=Hk.cS k2 dY k_
theorem y10:aB prog 101 [Y,.int .i64 10] (.aE [.str [],.int .i64 0]):=Hk.cS k2 dY k_
theorem y11:aB prog 101 [Y,.int .i64 11] (.aE [.str [],.int .i64 0]):=Hk.cS k2 dY k_
theorem y12:aB prog 101 [Y,.int .i64 12] (.aE [.str [],.int .i64 0]):=Hk.cS k2 dY k_
theorem y13:aB prog 101 [Y,.int .i64 13] (.aE [.str [],.int .i64 0]):=Hk.cS k2 dY k_
theorem y14:aB prog 101 [Y,.int .i64 14] (.aE [.str [],.int .i64 0]):=Hk.cS k2 dY k_
theorem y15:aB prog 101 [Y,.int .i64 15] (.aE [.str [],.int .i64 0]):=Hk.cS k2 dY k_
theorem y16:aB prog 101 [Y,.int .i64 16] (.aE [.str [],.int .i64 0]):=Hk.cS k2 dY k_
theorem y17:aB prog 101 [Y,.int .i64 17] (.aE [.str [],.int .i64 0]):=Hk.cS k2 dY k_
theorem y18:aB prog 101 [Y,.int .i64 18] (.aE [.str [],.int .i64 0]):=Hk.cS k2 dY k_
theorem y19:aB prog 101 [Y,.int .i64 19] (.aE [.str [],.int .i64 0]):=Hk.cS k2 dY k_
theorem y20:aB prog 101 [Y,.int .i64 20] (.aE [.str [],.int .i64 0]):=Hk.cS k2 dY k_
theorem y21:aB prog 101 [Y,.int .i64 21] (.aE [.str [],.int .i64 0]):=Hk.cS k2 dY k_
theorem y22:aB prog 101 [Y,.int .i64 22] (.aE [.str [],.int .i64 0]):=Hk.cS k2 dY k_
theorem y23:aB prog 101 [Y,.int .i64 23] (.aE [.str [],.int .i64 0]):=Hk.cS k2 dY k_
theorem y24:aB prog 101 [Y,.int .i64 24] (.aE [.str [],.int .i64 18]):=Hk.cS k2 dY k_
theorem y25:aB prog 101 [Y,.int .i64 25] (.aE [.str [],.int .i64 18]):=Hk.cS k2 dY k_
theorem y26:aB prog 101 [Y,.int .i64 26] (.aE [.str [],.int .i64 18]):=Hk.cS k2 dY k_
theorem y27:aB prog 101 [Y,.int .i64 27] (.aE [.str [],.int .i64 18]):=Hk.cS k2 dY k_
theorem y28:aB prog 101 [Y,.int .i64 28] (.aE [.str [],.int .i64 18]):=Hk.cS k2 dY k_
theorem y29:aB prog 101 [Y,.int .i64 29] (.aE [.str [],.int .i64 18]):=Hk.cS k2 dY k_
theorem y30:aB prog 101 [Y,.int .i64 30] (.aE [.str [],.int .i64 18]):=Hk.cS k2 dY k_
theorem y31:aB prog 101 [Y,.int .i64 31] (.aE [.str [],.int .i64 18]):=Hk.cS k2 dY k_
def k3:List (be×List PV×PV):=[(101,[Y,.int .i64 0],.aE [.str [],.int .i64 18]),(101,[Y,.int .i64 1],.aE [.str [],.int .i64 18]),(101,[Y,.int .i64 2],.aE [.str [],.int .i64 18]),(101,[Y,.int .i64 3],.aE [.str [],.int .i64 18]),(101,[Y,.int .i64 4],.aE [.str [],.int .i64 18]),(101,[Y,.int .i64 5],.aE [.str [],.int .i64 18]),(101,[Y,.int .i64 6],.aE [.str [],.int .i64 18]),(101,[Y,.int .i64 7],.aE [.str [],.int .i64 18]),(101,[Y,.int .i64 8],.aE [.str [],.int .i64 18]),(101,[Y,.int .i64 9],.aE [.str [],.int .i64 0]),(101,[Y,.int .i64 10],.aE [.str [],.int .i64 0]),(101,[Y,.int .i64 11],.aE [.str [],.int .i64 0]),(101,[Y,.int .i64 12],.aE [.str [],.int .i64 0]),(101,[Y,.int .i64 13],.aE [.str [],.int .i64 0]),(101,[Y,.int .i64 14],.aE [.str [],.int .i64 0]),(101,[Y,.int .i64 15],.aE [.str [],.int .i64 0]),(101,[Y,.int .i64 16],.aE [.str [],.int .i64 0]),(101,[Y,.int .i64 17],.aE [.str [],.int .i64 0]),(101,[Y,.int .i64 18],.aE [.str [],.int .i64 0]),(101,[Y,.int .i64 19],.aE [.str [],.int .i64 0]),(101,[Y,.int .i64 20],.aE [.str [],.int .i64 0]),(101,[Y,.int .i64 21],.aE [.str [],.int .i64 0]),(101,[Y,.int .i64 22],.aE [.str [],.int .i64 0]),(101,[Y,.int .i64 23],.aE [.str [],.int .i64 0]),(101,[Y,.int .i64 24],.aE [.str [],.int .i64 18]),(101,[Y,.int .i64 25],.aE [.str [],.int .i64 18]),(101,[Y,.int .i64 26],.aE [.str [],.int .i64 18]),(101,[Y,.int .i64 27],.aE [.str [],.int .i64 18]),(101,[Y,.int .i64 28],.aE [.str [],.int .i64 18]),(101,[Y,.int .i64 29],.aE [.str [],.int .i64 18]),(101,[Y,.int .i64 30],.aE [.str [],.int .i64 18]),(101,[Y,.int .i64 31],.aE [.str [],.int .i64 18])]++k2
theorem ju:Hk.lB k3:=Hk.vA (l:=[(101,[Y,.int .i64 0],.aE [.str [],.int .i64 18]),(101,[Y,.int .i64 1],.aE [.str [],.int .i64 18]),(101,[Y,.int .i64 2],.aE [.str [],.int .i64 18]),(101,[Y,.int .i64 3],.aE [.str [],.int .i64 18]),(101,[Y,.int .i64 4],.aE [.str [],.int .i64 18]),(101,[Y,.int .i64 5],.aE [.str [],.int .i64 18]),(101,[Y,.int .i64 6],.aE [.str [],.int .i64 18]),(101,[Y,.int .i64 7],.aE [.str [],.int .i64 18]),(101,[Y,.int .i64 8],.aE [.str [],.int .i64 18]),(101,[Y,.int .i64 9],.aE [.str [],.int .i64 0]),(101,[Y,.int .i64 10],.aE [.str [],.int .i64 0]),(101,[Y,.int .i64 11],.aE [.str [],.int .i64 0]),(101,[Y,.int .i64 12],.aE [.str [],.int .i64 0]),(101,[Y,.int .i64 13],.aE [.str [],.int .i64 0]),(101,[Y,.int .i64 14],.aE [.str [],.int .i64 0]),(101,[Y,.int .i64 15],.aE [.str [],.int .i64 0]),(101,[Y,.int .i64 16],.aE [.str [],.int .i64 0]),(101,[Y,.int .i64 17],.aE [.str [],.int .i64 0]),(101,[Y,.int .i64 18],.aE [.str [],.int .i64 0]),(101,[Y,.int .i64 19],.aE [.str [],.int .i64 0]),(101,[Y,.int .i64 20],.aE [.str [],.int .i64 0]),(101,[Y,.int .i64 21],.aE [.str [],.int .i64 0]),(101,[Y,.int .i64 22],.aE [.str [],.int .i64 0]),(101,[Y,.int .i64 23],.aE [.str [],.int .i64 0]),(101,[Y,.int .i64 24],.aE [.str [],.int .i64 18]),(101,[Y,.int .i64 25],.aE [.str [],.int .i64 18]),(101,[Y,.int .i64 26],.aE [.str [],.int .i64 18]),(101,[Y,.int .i64 27],.aE [.str [],.int .i64 18]),(101,[Y,.int .i64 28],.aE [.str [],.int .i64 18]),(101,[Y,.int .i64 29],.aE [.str [],.int .i64 18]),(101,[Y,.int .i64 30],.aE [.str [],.int .i64 18]),(101,[Y,.int .i64 31],.aE [.str [],.int .i64 18])]) ⟨y0,y1,y2,y3,y4,y5,y6,y7,y8,y9,y10,y11,y12,y13,y14,y15,y16,y17,y18,y19,y20,y21,y22,y23,y24,y25,y26,y27,y28,y29,y30,y31,trivial⟩ dY
end jF
namespace jF
theorem z0:aB prog 62 [Y,.int .i64 9,.str [99]] (.bool false):=Hk.cS k3 ju k_
theorem z1:aB prog 62 [Y,.int .i64 10,.str [99]] (.bool false):=Hk.cS k3 ju k_
theorem z2:aB prog 62 [Y,.int .i64 11,.str [99]] (.bool false):=Hk.cS k3 ju k_
theorem z3:aB prog 62 [Y,.int .i64 12,.str [99]] (.bool false):=Hk.cS k3 ju k_
theorem z4:aB prog 62 [Y,.int .i64 13,.str [99]] (.bool false):=Hk.cS k3 ju k_
theorem z5:aB prog 62 [Y,.int .i64 14,.str [99]] (.bool false):=Hk.cS k3 ju k_
theorem z6:aB prog 62 [Y,.int .i64 15,.str [99]] (.bool false):=Hk.cS k3 ju k_
theorem z7:aB prog 62 [Y,.int .i64 16,.str [99]] (.bool true):=Hk.cS k3 ju k_
theorem z8:aB prog 62 [Y,.int .i64 17,.str [99]] (.bool false):=Hk.cS k3 ju k_
theorem z9:aB prog 62 [Y,.int .i64 18,.str [99]] (.bool false):=Hk.cS k3 ju k_
theorem z10:aB prog 62 [Y,.int .i64 19,.str [99]] (.bool false):=Hk.cS k3 ju k_
theorem z11:aB prog 62 [Y,.int .i64 20,.str [99]] (.bool false):=Hk.cS k3 ju k_
theorem z12:aB prog 62 [Y,.int .i64 21,.str [99]] (.bool false):=Hk.cS k3 ju k_
theorem z13:aB prog 62 [Y,.int .i64 22,.str [99]] (.bool false):=Hk.cS k3 ju k_
theorem z14:aB prog 62 [Y,.int .i64 23,.str [99]] (.bool false):=Hk.cS k3 ju k_
def k4:List (be×List PV×PV):=[(62,[Y,.int .i64 9,.str [99]],.bool false),(62,[Y,.int .i64 10,.str [99]],.bool false),(62,[Y,.int .i64 11,.str [99]],.bool false),(62,[Y,.int .i64 12,.str [99]],.bool false),(62,[Y,.int .i64 13,.str [99]],.bool false),(62,[Y,.int .i64 14,.str [99]],.bool false),(62,[Y,.int .i64 15,.str [99]],.bool false),(62,[Y,.int .i64 16,.str [99]],.bool true),(62,[Y,.int .i64 17,.str [99]],.bool false),(62,[Y,.int .i64 18,.str [99]],.bool false),(62,[Y,.int .i64 19,.str [99]],.bool false),(62,[Y,.int .i64 20,.str [99]],.bool false),(62,[Y,.int .i64 21,.str [99]],.bool false),(62,[Y,.int .i64 22,.str [99]],.bool false),(62,[Y,.int .i64 23,.str [99]],.bool false)]++k3
theorem EN:Hk.lB k4:=Hk.vA (l:=[(62,[Y,.int .i64 9,.str [99]],.bool false),(62,[Y,.int .i64 10,.str [99]],.bool false),(62,[Y,.int .i64 11,.str [99]],.bool false),(62,[Y,.int .i64 12,.str [99]],.bool false),(62,[Y,.int .i64 13,.str [99]],.bool false),(62,[Y,.int .i64 14,.str [99]],.bool false),(62,[Y,.int .i64 15,.str [99]],.bool false),(62,[Y,.int .i64 16,.str [99]],.bool true),(62,[Y,.int .i64 17,.str [99]],.bool false),(62,[Y,.int .i64 18,.str [99]],.bool false),(62,[Y,.int .i64 19,.str [99]],.bool false),(62,[Y,.int .i64 20,.str [99]],.bool false),(62,[Y,.int .i64 21,.str [99]],.bool false),(62,[Y,.int .i64 22,.str [99]],.bool false),(62,[Y,.int .i64 23,.str [99]],.bool false)]) ⟨z0,z1,z2,z3,z4,z5,z6,z7,z8,z9,z10,z11,z12,z13,z14,trivial⟩ ju
end jF
namespace jF
theorem w0:aB prog 104 [Y,.st 82 [.str [97],.int .i64 0,.str [48],.str [49,47,50,48]]] (WR):=Hk.cS k2 dY k_
end jF
namespace jF
theorem w1:aB prog 104 [Y,.st 82 [.str [99],.int .i64 1,.str [57,47,50,48],.str [49,49,47,50,48]]] (WR):=Hk.cS k2 dY k_
end jF
namespace jF
theorem o:aB prog 32 [X] (.aE [.cT false [.int .i64 9,.int .i64 10,.int .i64 11,.int .i64 12,.int .i64 13,.int .i64 14,.int .i64 15,.int .i64 16,.int .i64 17,.int .i64 18,.int .i64 19,.int .i64 20,.int .i64 21,.int .i64 22,.int .i64 23],.int .i64 0]):=Hk.cS k4 EN k_
theorem p:aB prog 9 [X,.str [99]] (.aE [.cT false [.int .i64 16],.int .i64 0]):=Hk.cS k4 EN k_
def k5:List (be×List PV×PV):=[(32,[X],.aE [.cT false [.int .i64 9,.int .i64 10,.int .i64 11,.int .i64 12,.int .i64 13,.int .i64 14,.int .i64 15,.int .i64 16,.int .i64 17,.int .i64 18,.int .i64 19,.int .i64 20,.int .i64 21,.int .i64 22,.int .i64 23],.int .i64 0]),(9,[X,.str [99]],.aE [.cT false [.int .i64 16],.int .i64 0]),(104,[Y,.st 82 [.str [97],.int .i64 0,.str [48],.str [49,47,50,48]]],WR),(104,[Y,.st 82 [.str [99],.int .i64 1,.str [57,47,50,48],.str [49,49,47,50,48]]],WR)]++k4
theorem aF7:Hk.lB k5:=Hk.vA (l:=[(32,[X],.aE [.cT false [.int .i64 9,.int .i64 10,.int .i64 11,.int .i64 12,.int .i64 13,.int .i64 14,.int .i64 15,.int .i64 16,.int .i64 17,.int .i64 18,.int .i64 19,.int .i64 20,.int .i64 21,.int .i64 22,.int .i64 23],.int .i64 0]),(9,[X,.str [99]],.aE [.cT false [.int .i64 16],.int .i64 0]),(104,[Y,.st 82 [.str [97],.int .i64 0,.str [48],.str [49,47,50,48]]],WR),(104,[Y,.st 82 [.str [99],.int .i64 1,.str [57,47,50,48],.str [49,49,47,50,48]]],WR)]) ⟨o,p,w0,w1,trivial⟩ EN
end jF
theorem YU:aB prog 8 [] (.bool true):=Hk.cS jF.k5 jF.aF7 k_
namespace jF
end jF
def jB(t b:ar)(aw az:List Nat)(i j m:Nat):List (List Nat):=(cv m).map (fun n=>(fT t b aw az i j n).1)
theorem TK(t b:ar)(aw az:List Nat)(i j m:Nat):jB t b aw az i j (m+1)=jB t b aw az i j m++[(fT t b aw az i j m).1]:=by
 rw[jB,ed,e8];rfl
@[simp] theorem aNJ(t b:ar)(aw az:List Nat)(i j m:Nat):(jB t b aw az i j m).length=m:=by simp[jB]
@[simp] theorem aP0{β:Type}(f:List Nat->β)(t b:ar)(aw az:List Nat)(i j m:Nat):((jB t b aw az i j m).map f).take m=(jB t b aw az i j m).map f:=cc s_
def mQ(t b:ar)(aw az:List Nat)(i j:Nat):Bool:=(cv 32).any (fun n=>decide ((fT t b aw az i j n).2=0))
theorem To(t b:ar)(aw az:List Nat)(i j:Nat)(l:iB t)(k:gf b)(h:gn t b aw az=0)(g:gV t b aw az i j):
 aB prog 33 [fV t b aw az] (if mQ t b aw az i j then .aE [.seq [],.int .i64 7]else .aE [.seq ((jB t b aw az i j 32).map .str),.int .i64 0]):=by
 have k1:=xV t b aw az l k h;have c:=fun n a=>Ep t b aw az i j n g a;have q:(1000:Nat)<cV:=by decide
 refine aJ nf (i_ func33) mix (by simp[f33]) ?_;simp[f33,aa];refine c1_ k1 ?_;simp[aa];refine lp (α:=Nat) (fun m=>⟨[(18,.p (.int .i64 m)),(6,.sl 2 m 1 0 m),(4,.ptr 1 [])],[.box false (.p (fV t b aw az)),.box false (.p (iv t b aw az)),.arr .grow m 1 ((jB t b aw az i j m).map (fun x=>.p (.str x)))]⟩) (fun m=>m<=32/\∀n,n<m->(fT t b aw az i j n).2≠0) (fun m=>32-m) 0 s_ ?_ (he:=by simp[jB]) (hh:=by simp[jB]);rintro m ⟨m1,m2⟩
 by_cases hm:m<32
 ·have o:=b6 (i:=m) o_;have hs:=TK t b aw az i j m;have c:=c m hm;have f:(m:Int)<32:=by omega
  by_cases he:(fT t b aw az i j m).2=0
  ·have d:mQ t b aw az i j=true:=by
    rw[mQ,ck];exact⟨m,dk.2 hm,by simp[he]⟩
   rw[d];rw[he]at c;simp[f,aa];refine c2_ c ?_;simp[aa]
  ·have a:∀n,n<m+1->(fT t b aw az i j n).2≠0:=fun n a=>by
    by_cases e:n=m
    ·subst e;exact he
    ·exact m2 n o_
   generalize (fT t b aw az i j m).2=e at*;generalize (fT t b aw az i j m).1=r at*;simp[f,aa];refine c2_ c ?_;simp[he,o,aa];exact⟨o_,rd (m+1) ⟨o_,a⟩ (hh:=by simp[hs])⟩
 ·have:m=32:=by omega
  subst this;have d:mQ t b aw az i j=false:=by
   rw[mQ,fp];intro n a;have:=m2 n (dk.1 a);simp[this]
  rw[d];simp[aa]
def xk(r:Int)(b:ar)(aw az:List Nat)(cp a:V2)(far:Bool)(name:List Nat):Int:=
 if name=[]then aU (!far) 21 else match dB b.ak name with
  |none=>10
  |some s=>aU (decide (name=aw)||(decide (name=az)||(far||!lP r (vP s.pt) cp a))) 21
def uy(e:Int):Bool:=decide (e=16)||decide (e=18)
def kx(t b:ar)(aw az:List Nat)(i j n:Nat)(name:List Nat):Int:=
 xk t.aR b aw az (vP (b.sp i).pt) (u5 t.aR (vP (b.sp j).pt) n) (uy (fT t b aw az i j n).2) name
theorem TN(e:Int):(e=16/\uy e=true)\/(¬e=16/\e=18/\uy e=true)\/(¬e=16/\¬e=18/\uy e=false):=by
 rw[uy]
 by_cases a:e=16
 ·exact .inl ⟨a,by simp[a]⟩
 ·by_cases b:e=18
  ·exact .inr (.inl ⟨a,b,by simp[b]⟩)
  ·exact .inr (.inr ⟨a,b,by simp[a,b]⟩)
theorem TA(t b:ar)(aw az:List Nat)(i j n:Nat)(name:List Nat)(h:gV t b aw az i j)(y:n<32):
 aB prog 102 [iv t b aw az,.int .i64 n,.str name] (.int .i64 (kx t b aw az i j n name)):=by
 obtain⟨F,G⟩:=mP h.jE;have D:=(h.at h.ci.2.1).2;have C:=(h.at h.bj.2.1).2;have f:=Ep t b aw az i j n h y;have A:=HQ t b aw az i j n h y;have z:=Hm (n:=n) (r:=t.aR) o_ o_ C;have w:=h.ci.2.2;rw[kx];rw[<-IA]at z⊢;have m:=fun s(hs:s∈b.ak)=>H3 t b (.from s.pt) (.from (b.sp i).pt) (sA t b j n) o_ o_ (by rw[iW];exact(h.qj s hs).mono (by decide)) (by rw[iW];exact D.mono (by decide)) (z.mono (by decide));simp only[iW]at m;have o:=fun x=>qS x 21;generalize (fT t b aw az i j n).2=e at*;generalize (fT t b aw az i j n).1=E at*;generalize sA t b j n=a at*;refine aJ nf (i_ func102) mix (by simp[f102]) ?_;rw[xk];rcases TN e with⟨rfl,ef⟩|⟨e1,rfl,ef⟩|⟨e1,e2,ef⟩
 ·rw[ef];have l:=o true;have v:=o false
  by_cases c:name=[]
  ·subst c;rw[if_pos rfl];simp[f102,aa];refine c2_ f ?_;simp[aa];refine c2_ v ?_;simp[aa]
  rw[if_neg c];cases hf:dB b.ak name with
  |none=>
   simp[f102,aa];refine c2_ f ?_;simp[c,hf,aa]
  |some s=>
   have hs:s∈b.ak:=by rw[dB]at hf;exact ee hf
   have m:=m s hs;dsimp only;generalize lP t.aR (vP s.pt) (vP (b.sp i).pt) a.q=u at*
   by_cases hc:name=aw
   ·rw[decide_eq_true hc,ap];generalize aU true 21=w0 at*;have g:(name==aw)=true:=by simp[hc]
    simp[f102,aa];refine c2_ f ?_;simp[c,hf,g,aa];refine c2_ l ?_;simp[aa]
   have g:(name==aw)=false:=by simp[hc]
   by_cases d:name=az
   ·rw[decide_eq_true d,ap,ay];generalize aU true 21=w0 at*;have k:(name==az)=true:=by simp[d]
    simp[f102,aa];refine c2_ f ?_;simp[c,hf,g,k,hc,aa];refine c2_ l ?_;simp[aa]
   have k:(name==az)=false:=by simp[d]
   rw[decide_eq_false hc,decide_eq_false d,av,av];rw[ap];generalize aU true 21=w0 at*;simp[f102,aa];refine c2_ f ?_;simp[c,hf,hc,d,g,k,aa];refine c2_ l ?_;simp[aa]
 ·rw[ef];have l:=o true;have v:=o false
  by_cases c:name=[]
  ·subst c;rw[if_pos rfl];simp[f102,aa];refine c2_ f ?_;simp[aa];refine c2_ v ?_;simp[aa]
  rw[if_neg c];cases hf:dB b.ak name with
  |none=>
   simp[f102,aa];refine c2_ f ?_;simp[c,hf,aa]
  |some s=>
   have hs:s∈b.ak:=by rw[dB]at hf;exact ee hf
   have m:=m s hs;dsimp only;generalize lP t.aR (vP s.pt) (vP (b.sp i).pt) a.q=u at*
   by_cases hc:name=aw
   ·rw[decide_eq_true hc,ap];generalize aU true 21=w0 at*;have g:(name==aw)=true:=by simp[hc]
    simp[f102,aa];refine c2_ f ?_;simp[c,hf,g,aa];refine c2_ l ?_;simp[aa]
   have g:(name==aw)=false:=by simp[hc]
   by_cases d:name=az
   ·rw[decide_eq_true d,ap,ay];generalize aU true 21=w0 at*;have k:(name==az)=true:=by simp[d]
    simp[f102,aa];refine c2_ f ?_;simp[c,hf,g,k,hc,aa];refine c2_ l ?_;simp[aa]
   have k:(name==az)=false:=by simp[d]
   rw[decide_eq_false hc,decide_eq_false d,av,av];rw[ap];generalize aU true 21=w0 at*;simp[f102,aa];refine c2_ f ?_;simp[c,hf,hc,d,g,k,aa];refine c2_ l ?_;simp[aa]
 ·have q1:(e==16)=false:=by simp[e1]
  have p:(e==18)=false:=by simp[e2]
  rw[ef];have l:=o true;have v:=o false
  by_cases c:name=[]
  ·subst c;rw[if_pos rfl];simp[f102,aa];refine c2_ f ?_;simp[q1,p,e1,e2,aa];refine c2_ l ?_;simp[aa]
  rw[if_neg c];cases hf:dB b.ak name with
  |none=>
   simp[f102,aa];refine c2_ f ?_;simp[q1,p,e1,e2,c,hf,aa]
  |some s=>
   have hs:s∈b.ak:=by rw[dB]at hf;exact ee hf
   have m:=m s hs;dsimp only;generalize lP t.aR (vP s.pt) (vP (b.sp i).pt) a.q=u at*
   by_cases hc:name=aw
   ·rw[decide_eq_true hc,ap];generalize aU true 21=w0 at*;have g:(name==aw)=true:=by simp[hc]
    simp[f102,aa];refine c2_ f ?_;simp[q1,p,e1,e2,c,hf,g,aa];refine c2_ l ?_;simp[aa]
   have g:(name==aw)=false:=by simp[hc]
   by_cases d:name=az
   ·rw[decide_eq_true d,ap,ay];generalize aU true 21=w0 at*;have k:(name==az)=true:=by simp[d]
    simp[f102,aa];refine c2_ f ?_;simp[q1,p,e1,e2,c,hf,g,k,hc,aa];refine c2_ l ?_;simp[aa]
   have k:(name==az)=false:=by simp[d]
   rw[decide_eq_false hc,decide_eq_false d,av,av];rw[av];have B:=o (!u);generalize aU (!u) 21=H at*;simp[f102,aa];refine c2_ f ?_;simp[q1,p,e1,e2,c,hf,hc,d,g,k,w,aa];refine e2_ A ?_;simp[q1,p,e1,e2,w,aa];refine e4_ m ?_;simp[q1,p,e1,e2,aa];refine c2_ B ?_;simp[aa]
def xU(t b:ar)(aw az:List Nat)(i j:Nat)(l:List (List Nat)):Int:=
 if l.length≠32 then 2 else bK ((cv 32).map (fun n=>kx t b aw az i j n (l.getD n [])))
theorem Tj(t b:ar)(aw az:List Nat)(i j:Nat)(l:List (List Nat))(w:iB t)(u:gf b)(h:gn t b aw az=0)(s:gV t b aw az i j)(A:l.length<=1000000):
 aB prog 34 [fV t b aw az,.seq (l.map .str)] (.int .i64 (xU t b aw az i j l)):=by
 have k1:=xV t b aw az w u h;have d:=fun n g=>TA t b aw az i j n (l.getD n []) s g;have k2:=fun x=>qS x 2;have k3:∀x,aB prog 63 [.seq [.int .i64 0,.int .i64 (aU x 2)]] (.int .i64 (aU x 2)):=fun x=>by
  have:=ID [0,aU x 2] s_;cases x<;>simpa[bK,aU]using this
 refine aJ nf (i_ func34) mix (by simp[f34]) ?_;rw[xU]
 by_cases q:l.length=32
 case neg=>
  have i32:¬(l.length:Int)=32:=o_
  have k2:=k2 true;have k3:=k3 true;have c:aU true 2=2:=rfl;rw[c]at k2 k3;rw[if_pos q];simp[f34,aa];refine c1_ k1 ?_;simp[i32,aa];refine c2_ k2 ?_ (by simp[i32]);simp[aa];refine cp k3 (by simp;first|exact⟨rfl,rfl⟩|rfl) ?_;simp[aa]
 have i32:(l.length:Int)=32:=o_
 have k2:=k2 false;have k3:=k3 false;have c:aU false 2=0:=rfl;rw[c]at k2 k3;rw[if_neg (by simp[q])];simp[f34,aa];refine c1_ k1 ?_;simp[i32,aa];refine c2_ k2 ?_;simp[aa];refine cp k3 (by simp;first|exact⟨rfl,rfl⟩|rfl) ?_;simp[i32,aa];refine lp (α:=Nat) (fun m=>⟨[(27,.p (.int .i64 m)),(26,.p (.int .i64 32)),(25,.p (.seq (l.map .str))),(5,.ptr 1 [])],[.box false (.p (fV t b aw az)),.box false (.p (iv t b aw az))]⟩) (fun m=>m<=32/\∀n,n<m->kx t b aw az i j n (l.getD n [])=0) (fun m=>32-m) 0 s_ ?_;rintro m ⟨m1,m2⟩
 by_cases hm:m<32
 ·have c:=b6 (i:=m) o_;have d:=d m hm;have r:(m:Int)<32:=by omega
  have k:m<l.length:=o_
  have o:l[m]=l.getD m []:=by
   rw[dp,ce k];rfl
  have v:kx t b aw az i j m (l.getD m [])≠0->bK ((cv 32).map (fun n=>kx t b aw az i j n (l.getD n [])))=kx t b aw az i j m (l.getD m []):=fun a=>
   Bf (f:=fun n=>kx t b aw az i j n (l.getD n [])) 32 m m2 hm a
  have z:kx t b aw az i j m (l.getD m [])=0->∀n,n<m+1->kx t b aw az i j n (l.getD n [])=0:=fun a n g=>by
   by_cases e:n=m
   ·subst e;exact a
   ·exact m2 n o_
  generalize kx t b aw az i j m (l.getD m [])=E at*;generalize bK ((cv 32).map (fun n=>kx t b aw az i j n (l.getD n [])))=R at*;generalize l.getD m []=name at*
  by_cases a:E=0
  ·rw[a]at d;simp[r,k,o,aa];refine c3_ d ?_;simp[c,aa];exact rd (m+1) ⟨o_,z a⟩
  ·rw[v a];simp[r,k,o,aa];refine c3_ d ?_;simp[a,aa]
 ·have:m=32:=by omega
  subst this;have y:bK ((cv 32).map (fun n=>kx t b aw az i j n (l.getD n [])))=0:=by
   rw[mV];intro e a;obtain⟨n,g,rfl⟩:=dq.1 a;exact m2 n (dk.1 g)
  rw[y];simp[aa]
theorem TE{t b:ar}{aw az:List Nat}{i j:Nat}:mQ t b aw az i j=!decide ((fZ t b aw az i j 32).length=0):=by
 rw[mQ,fZ,a7];simp
def ar.wS(t:ar)(e:Nat)(s:Rat):V2:=(lT (t.at e)).add ((t.uO e).mul s)
def pf(p:cX)(k:Nat):Rat:=aS p.a+jf k 64*(aS p.b-aS p.a)
structure sF(t:ar)(p:cX)(e:Nat):Prop where
 dP:p.dP=e
 lt:e<t.cs.length
 a0:b9 p.a=0
 b0:b9 p.b=0
 a1:bL 30 (aS p.a)
 b1:bL 30 (aS p.b)
 ok:qu p
theorem aGD{k:Nat}(h:k<=64):bL 8 (jf k 64):=DX (by decide) o_ (by decide)
theorem Hn{t:ar}{p:cX}{e k:Nat}(h:sF t p e)(hk:k<=64):bL 200 (pf p k):=by
 exact(wO h.a1 (gC (aGD hk) (tq h.b1 h.a1))).mono (by decide)
def sG(t:ar)(name:List Nat):Int:=idxFrom (fun o=>decide (o.name=name)) t.ba 0
theorem Hu{α:Type}(f:α->Bool):∀(l:List α)(n:Nat),idxFrom f l n= -1\/∃i,idxFrom f l n=((n+i:Nat):Int)/\i<l.length
 |[],n=>.inl rfl
 |a::l,n=>by
  rw[idxFrom];cases f a
  ·rcases Hu f l (n+1)with h|⟨i,b,c⟩
   ·exact .inl (by simpa using h)
   ·exact .inr ⟨i+1,by simp[b];omega,by simp;omega⟩
  ·exact .inr ⟨0,s_,s_⟩
theorem TJ(t:ar)(name:List Nat):sG t name= -1\/∃i:Nat,sG t name=i/\i<t.ba.length:=by
 rcases Hu (fun o:cX=>decide (o.name=name)) t.ba 0 with h|⟨i,a,b⟩
 ·exact .inl h
 ·exact .inr ⟨i,by rw[sG,a];simp,b⟩
theorem Tu(name:List Nat)(o:cX):cC prog 136 [.box false (.p (.str name))] [.p (dZ o),.ptr 0 []] [.box false (.p (.str name))] (.p (.bool (decide (o.name=name)))):=by
 refine fk nf (i_ func136) mix (by simp[f136]) ?_
 by_cases h:o.name=name
 ·simp[f136,aa,h];exact cR.og s_ s_ s_ s_ s_
 ·simp[f136,aa,h];exact cR.og s_ s_ s_ s_ s_
theorem TL(name:List Nat)(l:List cX)(h:l.length<=1000000):
 cC prog 135 [.box false (.p (.str name))] [.p (.seq (l.map dZ)),.func 136 [] [.ptr 0 []]] [.box false (.p (.str name))] (.p (.int .i64 (idxFrom (fun o=>decide (o.name=name)) l 0))):=by
 refine fk nf (i_ func135) mix (by simp[f135]) ?_;simp[f135];refine lp (α:=Nat) (fun i=>⟨[(8,.p (.int .i64 i)),(7,.p (.int .i64 l.length)),(1,.func 136 [] [.ptr 0 []]),(0,.p (.seq (l.map dZ)))],[.box false (.p (.str name))]⟩) (fun i=>i<=l.length/\idxFrom (fun o=>decide (o.name=name)) l 0=idxFrom (fun o=>decide (o.name=name)) (l.drop i) i) (fun i=>l.length-i) 0 s_ ?_;rintro i ⟨k1,k2⟩;have a:=b6 (i:=i) o_
 by_cases hi:i<l.length
 ·rw[b4 hi,idxFrom]at k2;simp[hi];refine cf (Tu name l[i]) [0] ?_
  by_cases hk:l[i].name=name
  ·simp[hk]at k2;simp[hk,k2,bc]
  ·simp[hk]at k2;simp[hk,a,bc];exact rd (i+1) ⟨hi,k2⟩
 ·have:i=l.length:=by omega
  subst this;simp[idxFrom]at k2;simp[k2]
theorem ZM(t:ar)(name:List Nat)(i:Nat)(c:t.ba.length<=1000000)(h:sG t name=i)(hi:i<t.ba.length):aB prog 59 [bU t,.str name] (.aE [dZ (t.pk i),.bool true]):=by
 have k:=TL name t.ba c;rw[sG]at h;rw[h]at k;have b:=ar.jC hi;have a:¬(i:Int)<0:=o_
 refine aJ nf (i_ func59) mix (by simp[f59]) ?_;simp[f59,aa];refine cf k [1] ?_;simp[bc,sig,a,hi,b,aa]
def qC(t b:ar)(aw az:List Nat)(j e:Nat)(p:cX)(k:Nat):Bool:=(dG t.aR (vP (b.sp j).pt) (t.wS e (pf p k)) [aw,az] b.ak).isEmpty
def iG(t b:ar)(aw az:List Nat)(j e:Nat)(p:cX)(m:Nat):List Nat:=(cv m).filter (qC t b aw az j e p)
theorem TH(t b:ar)(aw az:List Nat)(j e:Nat)(p:cX)(m:Nat):iG t b aw az j e p (m+1)=iG t b aw az j e p m++(if qC t b aw az j e p m then[m]else[]):=by
 rw[iG,ed,fm,<-iG]
 by_cases h:qC t b aw az j e p m=true
 ·simp[h]
 ·simp[h]
theorem BD(t b:ar)(aw az:List Nat)(j e:Nat)(p:cX)(m:Nat):(iG t b aw az j e p m).length<=m:=by
 have:=fd (qC t b aw az j e p) (cv m);rw[ei]at this;exact this
theorem aGH{t:ar}{p:cX}{e k:Nat}(a:∀p∈t.cs,dV p)(h:sF t p e)(hk:k<=64):bJ 300 (t.wS e (pf p k)):=
 (Fm (jX (ar.fE a h.lt)) (xt (ar.okW a h.lt) (Hn h hk))).mono (by decide)
def lV(p:cX)(k:Nat):NF:=NF.add ⟨aS p.a,false⟩ (NF.mul (NF.sub ⟨aS p.b,false⟩ ⟨aS p.a,false⟩) (NF.div (.int k) (.int 64)))
theorem RI(p:cX)(k:Nat):(lV p k).q=pf p k:=by
 show aS p.a+(NF.sub ⟨aS p.b,false⟩ ⟨aS p.a,false⟩).q*(((k:Int):Rat)/((64:Int):Rat))=_;rw[NF.fO,pf,CJ,Rat.div_def,Rat.mul_comm]
theorem aGE{t:ar}{p:cX}{e k:Nat}(h:sF t p e)(hk:k<=64):bL 200 (lV p k).q:=by rw[RI];exact Hn h hk
theorem ayA(t b:ar)(aw az:List Nat)(i j w e k:Nat)(h:gV t b aw az i j)(hk:sF t (t.pk w) e)(o:k<=64):
 cC prog 192 [.box false (.p (eF ⟨aS (t.pk w).a,false⟩)),.box false (.p (eF ⟨aS (t.pk w).b,false⟩)),.box false (.p (bP (cA (t.at e)))),.box false (.p (bP (t.eO e)))]
  [.p (iv t b aw az),.p (.int .i64 k),.ptr 0 [],.ptr 1 [],.ptr 2 [],.ptr 3 []]
  [.box false (.p (eF ⟨aS (t.pk w).a,false⟩)),.box false (.p (eF ⟨aS (t.pk w).b,false⟩)),.box false (.p (bP (cA (t.at e)))),.box false (.p (bP (t.eO e)))] (.p (.bool (qC t b aw az j e (t.pk w) k))):=by
 obtain⟨H,I⟩:=mP h.jE;obtain⟨_,_,c,_⟩:=sO h.jE;have v:=(h.at h.bj.2.1).2;have x:=jX (ar.fE c hk.lt);have n:=ar.okW c hk.lt;have m:=aGE hk o;have d:bL 61 (NF.sub ⟨aS (t.pk w).b,false⟩ ⟨aS (t.pk w).a,false⟩).q:=by rw[NF.fO];exact tq hk.b1 hk.a1
 have f:bL 20 (NF.int k).q:=nu o_ (by decide);have g:bL 20 (NF.int 64).q:=nu (by decide) (by decide);have l:bL 40 (NF.div (.int k) (.int 64)).q:=Yg f g;have k1:=qc ⟨aS (t.pk w).b,false⟩ ⟨aS (t.pk w).a,false⟩ (hk.b1.mono (by decide)) (hk.a1.mono (by decide));have k2:=kj k o_ o_;have k3:=kj 64 o_ o_;have k4:=PO (.int k) (.int 64) (f.mono (by decide)) (g.mono (by decide)) (by decide);have k5:=jQ (NF.sub ⟨aS (t.pk w).b,false⟩ ⟨aS (t.pk w).a,false⟩) (NF.div (.int k) (.int 64)) (d.mono (by decide)) (l.mono (by decide));have k6:=su ⟨aS (t.pk w).a,false⟩ (NF.mul (NF.sub ⟨aS (t.pk w).b,false⟩ ⟨aS (t.pk w).a,false⟩) (NF.div (.int k) (.int 64))) (hk.a1.mono (by decide)) ((gC d l).mono (by decide));have r:NF.add ⟨aS (t.pk w).a,false⟩ (NF.mul (NF.sub ⟨aS (t.pk w).b,false⟩ ⟨aS (t.pk w).a,false⟩) (NF.div (.int k) (.int 64)))=lV (t.pk w) k:=rfl;rw[r]at k6;have k7:=Eh (t.eO e) (lV (t.pk w) k) (by rw[ar.xF];exact n.mono (by decide)) (m.mono (by decide));have u:bJ 300 ((t.eO e).times (lV (t.pk w) k)).q:=by rw[NV.uU,ar.xF];exact(xt n m).mono (by decide)
 have k8:=IB (cA (t.at e)) ((t.eO e).times (lV (t.pk w) k)) (x.mono (by decide)) (u.mono (by decide));have hq:((cA (t.at e)).add ((t.eO e).times (lV (t.pk w) k))).q=t.wS e (pf (t.pk w) k):=by
  rw[NV.BT,NV.uU,ar.xF,RI];rfl
 have k9:=BC t b (.from (b.sp j).pt) ((cA (t.at e)).add ((t.eO e).times (lV (t.pk w) k))) [aw,az] o_ o_ h.L (fun s hs=>(h.qj s hs).mono (by decide)) s_ (by rw[iW];exact v.mono (by decide)) (by rw[hq];exact aGH c hk o);rw[hq,iW]at k9;have k9:aB prog 109 [lH t b,bP (.from (b.sp j).pt),bP ((cA (t.at e)).add ((t.eO e).times (lV (t.pk w) k))),.seq [.str aw,.str az]] (.str (dG t.aR (vP (b.sp j).pt) (t.wS e (pf (t.pk w) k)) [aw,az] b.ak)):=k9;have y:=h.bj.2.2;rw[qC];clear r hq d f g l u m n x v;generalize dG t.aR (vP (b.sp j).pt) (t.wS e (pf (t.pk w) k)) [aw,az] b.ak=R at*;generalize (cA (t.at e)).add ((t.eO e).times (lV (t.pk w) k))=v1 at*;generalize (t.eO e).times (lV (t.pk w) k)=v2 at*;generalize lV (t.pk w) k=z at*;generalize NF.mul (NF.sub ⟨aS (t.pk w).b,false⟩ ⟨aS (t.pk w).a,false⟩) (NF.div (.int k) (.int 64))=A at*;generalize NF.div (.int k) (.int 64)=B at*;generalize NF.sub ⟨aS (t.pk w).b,false⟩ ⟨aS (t.pk w).a,false⟩=C at*;generalize (⟨aS (t.pk w).b,false⟩:NF)=D at*;generalize (⟨aS (t.pk w).a,false⟩:NF)=E at*;generalize NF.int k=F at*;generalize NF.int 64=G at*;generalize t.eO e=v3 at*;generalize cA (t.at e)=v4 at*;refine fk nf (i_ func192) mix (by simp[f192]) ?_;simp[f192,aa];refine e2_ k1 ?_;simp[aa];refine e1_ k2 ?_;simp[aa];refine e1_ k3 ?_;simp[aa];refine e2_ k4 ?_;simp[aa];refine e2_ k5 ?_;simp[aa];refine e2_ k6 ?_;simp[y,aa];refine⟨by repeat' first|rfl|apply am,?_⟩;refine e2_ k7 ?_;simp[aa];refine e2_ k8 ?_;simp[aa];refine ep k9 (by simp;first|exact⟨rfl,rfl⟩|rfl) (by simp;first|exact⟨rfl,rfl⟩|rfl) ?_;simp[aa];refine⟨by repeat' first|rfl|apply am,?_⟩;exact cR.og s_ s_ s_ s_ s_
theorem ayf(t b:ar)(aw az:List Nat)(i j w e:Nat)(h:gV t b aw az i j)(hk:sF t (t.pk w) e):
 cC prog 60 [.box false (.p (eF ⟨aS (t.pk w).a,false⟩)),.box false (.p (eF ⟨aS (t.pk w).b,false⟩)),.box false (.p (bP (cA (t.at e)))),.box false (.p (bP (t.eO e)))]
  [.p (iv t b aw az),.p (.int .i64 65),.func 192 [] [.ptr 0 [],.ptr 1 [],.ptr 2 [],.ptr 3 []]]
  [.box false (.p (eF ⟨aS (t.pk w).a,false⟩)),.box false (.p (eF ⟨aS (t.pk w).b,false⟩)),.box false (.p (bP (cA (t.at e)))),.box false (.p (bP (t.eO e))),.hole,.arr .grow (iG t b aw az j e (t.pk w) 65).length 1 ((iG t b aw az j e (t.pk w) 65).map (AV.p∘gH))]
  (.sl 5 (iG t b aw az j e (t.pk w) 65).length 1 0 (iG t b aw az j e (t.pk w) 65).length):=by
 have c:=fun k(l:k<=64)=>ayA t b aw az i j w e k h hk l;have o:(1000:Nat)<cV:=by decide
 refine fk nf (i_ func60) mix (by simp[f60]) ?_;simp[f60,aa];refine lp (α:=Nat) (fun m=>⟨[(10,.p (.int .i64 m)),(9,.p (.int .i64 65)),(7,.sl 5 (iG t b aw az j e (t.pk w) m).length 1 0 (iG t b aw az j e (t.pk w) m).length),(3,.ptr 4 []),(2,.func 192 [] [.ptr 0 [],.ptr 1 [],.ptr 2 [],.ptr 3 []])],
  [.box false (.p (eF ⟨aS (t.pk w).a,false⟩)),.box false (.p (eF ⟨aS (t.pk w).b,false⟩)),.box false (.p (bP (cA (t.at e)))),.box false (.p (bP (t.eO e))),.box false (.p (iv t b aw az)),.arr .grow (iG t b aw az j e (t.pk w) m).length 1 ((iG t b aw az j e (t.pk w) m).map (AV.p∘gH))]⟩) (fun m=>m<=65) (fun m=>65-m) 0 s_ ?_ (he:=by simp[iG]) (hh:=by simp[iG])
 rintro m m1
 by_cases hm:m<65
 ·have g:=b6 (i:=m) o_;have hs:=TH t b aw az j e (t.pk w) m;have n:=BD t b aw az j e (t.pk w) m;have c:=c m o_;have f:(m:Int)<65:=by omega
  cases d:qC t b aw az j e (t.pk w) m
  ·rw[d,if_neg (by decide),gc]at hs;rw[d]at c;simp[f,aa];refine cf c [0,1,2,3] ?_;simp[bc,sig,g,aa];exact rd (m+1) o_ (he:=by simp[hs]) (hh:=by simp[hs])
  ·rw[d,if_pos rfl]at hs;rw[d]at c;simp[f,aa];refine cf c [0,1,2,3] ?_;simp[bc,sig,g,aa];exact⟨o_,rd (m+1) o_ (he:=by simp[hs]) (hh:=by simp[hs,gH])⟩
 ·have:m=65:=by omega
  subst this;simp[aa];exact cR.og s_ s_ s_ s_ s_
theorem Ty(t b:ar)(aw az:List Nat)(i j w e:Nat)(h:gV t b aw az i j)(z:w<t.ba.length)(hk:sF t (t.pk w) e):
 aB prog 104 [iv t b aw az,dZ (t.pk w)] (.seq ((iG t b aw az j e (t.pk w) 65).map gH)):=by
 obtain⟨_,_,d,_⟩:=sO h.jE;have x:=ayf t b aw az i j w e h hk;have l:=hk.dP;have c:=hk.lt;have y:=h.tl;have f:=t.lY o_ e;have r:=ar.get c;have s:=ar.get f;have w1:bo.wrap ((e:Int)+1)=(e:Int)+1:=aQ _ o_ o_;have e1:((e:Int)+1).tmod (t.cs.length:Int)=((t.nx e:Nat):Int):=by
  rw[ar.nx,bI,bv o_];rfl
 have v:¬t.cs.length=0:=o_
 have u:¬t.cs=[]:=by intro e;rw[e]at c;simp at c
 have m:=jX (ar.fE d c);have n:=jX (ar.fE d f);have a1:=xE (t.at e) (ar.fE d c);have o:=xE (t.at (t.nx e)) (ar.fE d f);have g:=qh (cA (t.at (t.nx e))) (cA (t.at e)) (n.mono (by decide)) (m.mono (by decide));have k:(cA (t.at (t.nx e))).sub (cA (t.at e))=t.eO e:=rfl;rw[k]at g;have p:=ki (t.pk w).a hk.a0 hk.ok.2.1.1;have q:=ki (t.pk w).b hk.b0 hk.ok.2.2.1;clear k m n;generalize iG t b aw az j e (t.pk w) 65=L at*;generalize (⟨aS (t.pk w).a,false⟩:NF)=A at*;generalize (⟨aS (t.pk w).b,false⟩:NF)=B at*;generalize t.eO e=v1 at*;generalize cA (t.at e)=v2 at*;generalize cA (t.at (t.nx e))=v3 at*;refine aJ nf (i_ func104) mix (by simp[f104]) ?_;simp[f104,l,c,r,aa];refine c1_ a1 ?_;simp[w1,e1,v,u,f,s,l,aa];refine e1_ o ?_;simp[aa];refine e2_ g ?_;simp[aa];refine⟨by repeat' first|rfl|apply am,?_⟩;refine e1_ p ?_;simp[aa];refine e1_ q ?_;simp[aa];refine⟨by repeat' first|rfl|apply am,?_⟩;refine cf x [4,5,2,3] ?_;simp[bc,sig,aa]
def qp(t:ar)(w:Nat):Nat:=(t.pk w).dP.toNat
structure Rl(t:ar):Prop where
 pl:t.ba.length<=12
 wk:∀w,w<t.ba.length->sF t (t.pk w) (qp t w)
def sN(t b:ar)(aw az:List Nat)(j w:Nat):List Nat:=iG t b aw az j (qp t w) (t.pk w) 65
theorem Hv(t b:ar)(aw az name:List Nat)(i j w:Nat)(f:iB t)(e:gf b)(d:gn t b aw az=0)(h:gV t b aw az i j)(c:Rl t)(g:sG t name=w)(a:w<t.ba.length):
 aB prog 36 [fV t b aw az,.str name] (.aE [.seq ((sN t b aw az j w).map gH),.int .i64 0]):=by
 have k:=c.pl;have k1:=xV t b aw az f e d;have k2:=ZM t name w o_ g a;have k3:=Ty t b aw az i j w (qp t w) h a (c.wk w a);rw[sN];generalize iG t b aw az j (qp t w) (t.pk w) 65=L at*;refine aJ nf (i_ func36) mix (by simp[f36]) ?_;simp[f36,aa];refine c1_ k1 ?_;simp[aa];refine c2_ k2 ?_;simp[aa];refine c2_ k3 ?_;simp[aa]
theorem aGJ{t b:ar}{aw az:List Nat}{n:Nat}(l:iB t)(j:gf b)(hs:sX t b aw az n=true)(h:gn t b aw az=0):Rl t:=by
 obtain⟨f,_,_,_⟩:=xT h;obtain⟨a,_,_⟩:=qJ j f;rw[sX,f]at hs;simp only[ao,a6,decide_eq_true_eq]at hs;obtain⟨_,_,_,_,hs⟩:=hs;have hf:kn t b n 9=true:=by
  rcases hs with hs|hs
  ·exact absurd rfl hs
  ·exact hs
 rw[kn]at hf;simp only[ao,eo]at hf;obtain⟨_,_,_,_,_,k,_,_⟩:=hf;rw[gz]at a
 split at a
 ·omega
 split at a
 ·omega
 split at a
 ·omega
 split at a
 ·omega
 split at a
 ·omega
 split at a
 ·omega
 rename_i p
 split at a
 ·contradiction
 rename_i c;have c:=bb.1 c;have i:=mM.1 c;refine⟨o_,fun w g=>?_⟩;have d:=ar.jC g;have m:=b3 d;have e:=i w g;rw[fU,d]at e;dsimp only at e;obtain⟨v1,v2⟩:=Bk e;obtain⟨f1,f2⟩:=k _ m;have o:0<=(t.pk w).dP/\(t.pk w).dP<t.cs.length:=by
  rw[iA]at e
  split at e
  ·omega
  split at e
  ·omega
  split at e
  ·omega
  omega
 exact⟨by rw[qp];omega,by rw[qp];omega,v1,v2,Ax f1,Ax f2,l.pk _ m⟩
theorem xP{s:List Nat}{d D:Nat}(h:fe s d=true)(a:d<=D):fe s D=true:=by
 simp only[fe,ao,decide_eq_true_eq]at h⊢;omega
theorem TM{t b:ar}{n N d D:Nat}(h:kn t b n d=true)(k:n<=N)(a:d<=D):kn t b N D=true:=by
 have e:∀p:fF,lQ p d=true->lQ p D=true:=fun p h=>by
  rw[lQ,ao]at h⊢;exact⟨xP h.1 a,xP h.2 a⟩
 simp only[kn,oY,ao,eo,decide_eq_true_eq,aT,Bool.or_eq_false_iff,Bool.and_eq_false_iff,decide_eq_false_iff_not]at h⊢;obtain⟨a1,⟨⟨a2,a3⟩,a4⟩,a5,i,j,c,a9,g⟩:=h;refine⟨a1,⟨⟨.inl o_,a3⟩,a4⟩,o_,i,j,fun p f=>?_,fun s hs=>e _ (a9 s hs),fun s hs=>e _ (g s hs)⟩;exact⟨xP (c p f).1 a,xP (c p f).2 a⟩
theorem TG{t:ar}{a b:List ch}{s:ch}(h:fK t a s=0)(hs:∀o∈b,o∈a):fK t b s=0:=by
 rw[fK]at h⊢;have c:∀f:ch->Bool,¬a.any f=true->¬b.any f=true:=fun f d e=>by
  obtain⟨o,g,hf⟩:=ck.1 e;exact d (ck.2 ⟨o,hs o g,hf⟩)
 split at h
 ·omega
 rename_i c1;rw[if_neg c1]
 split at h
 ·omega
 rename_i c2;rw[if_neg (c _ c2)]
 split at h
 ·contradiction
 rename_i c3;rw[if_neg c3]
 split at h
 ·omega
 rename_i c4;rw[if_neg c4]
 split at h
 ·omega
 rename_i c5;rw[if_neg (c _ c5)]
theorem TO{t:ar}{l a:List ch}(h:jH (fK t) l=0)(hs:a.Sublist l):jH (fK t) a=0:=by
 rw[mM]at h⊢;intro j f;have d:a.take j++a[j]::a.drop (j+1)=a:=by rw[List.getElem_cons_drop,fb]
 rw[<-d]at hs;obtain⟨b,q,e,s1,s2⟩:=List.append_sublist_iff.1 hs;obtain⟨q1,k,e2,m,r⟩:=List.cons_sublist_iff.1 s2;obtain⟨u1,p,e3⟩:=List.append_of_mem m;have c:l=(b++u1)++a[j]::(p++k):=by rw[e,e2,e3];simp
 have:=h (b++u1).length (by rw[c];simp);have g:l[(b++u1).length]?=some a[j]:=by rw[c,List.getElem?_append_right (Nat.le_refl _)];simp
 have n:l.take (b++u1).length=b++u1:=by rw[c,List.take_left'];rfl
 rw[fU,g,n]at this;rw[fU,ce f];exact TG this (fun o i=>List.mem_append.2 (.inl (s1.subset i)))
theorem BA{t b b':ar}(h:fw t b=0)(hs:b'.ak.Sublist b.ak):fw t b'=0:=by
 rw[fw]at h⊢
 by_cases a:gz t=0
 case neg=>rw[if_pos a]at h;exact absurd h a
 rw[if_neg (by simp[a]),qf]at h⊢;have d:=hs.length_le
 by_cases c:24<b.ak.length
 ·rw[if_pos c]at h;omega
 rw[if_neg c]at h;rw[if_neg o_];exact TO h hs
theorem BB{b b':ar}(a:gf b)(hs:b'.ak.Sublist b.ak):gf b':=
 ⟨Nat.le_trans hs.length_le a.sl,fun s h=>a.sp s (hs.subset h)⟩
theorem BG{b:ar}(h:oW b){s:ch}(hs:s∈b.ak):dB b.ak s.name=some s:=by
 obtain⟨i,hi,rfl⟩:=cb.1 hs;rw[ar.jD hi];exact Hr h hi
theorem xQ{t b:ar}(h:fw t b=0){s:ch}(hs:s∈b.ak):s.name≠[]:=by
 rw[fw]at h
 by_cases a:gz t=0
 case neg=>rw[if_pos a]at h;exact absurd h a
 rw[if_neg (by simp[a]),qf]at h
 by_cases c:24<b.ak.length
 ·rw[if_pos c]at h;omega
 rw[if_neg c]at h;obtain⟨i,hi,rfl⟩:=cb.1 hs;have:=mM.1 h i hi;rw[fU,ce hi]at this;dsimp only at this;rw[fK]at this
 split at this
 ·omega
 rename_i c1;intro e;rw[e]at c1;exact c1 rfl
def eK(b:ar)(k:Nat):ar:={b with ak:=b.ak.eraseIdx k}
theorem qI(b:ar)(k:Nat):(eK b k).ak.Sublist b.ak:=List.eraseIdx_sublist _ _
theorem BF{b:ar}{n:List Nat}{i:Nat}(h:hasB b n i):(b.sp i).name=n:=by
 have:=h.2.2;rw[dB]at this;simpa using List.find?_some this
theorem Ib{b:ar}{k i:Nat}{n:List Nat}(d:oW (eK b k))(h:hasB b n i)(f:(b.sp k).name≠n):∃a,hasB (eK b k) n a/\(eK b k).sp a=b.sp i:=by
 have c:=BF h;have m:b.sp i∈(eK b k).ak:=by
  refine List.mem_eraseIdx_iff_getElem.2 ⟨i,h.2.1,fun e=>f (e▸c),ar.jD h.2.1⟩
 have hf:=BG d m;rw[c]at hf;rcases sW (eK b k) n with⟨a,hi⟩|⟨_,e⟩
 ·refine⟨a,hi,?_⟩;have:=hi.2.2;rw[hf]at this;injection this with e
  exact e.symm
 ·rw[e]at hf;cases hf
theorem aup{t b:ar}{aw az:List Nat}{i j k:Nat}(a:gV t b aw az i j)(o:gf b)(h:fw t b=0)(m:(b.sp k).name≠aw)(n:(b.sp k).name≠az):
 ∃c d,gV t (eK b k) aw az c d/\(eK b k).sp c=b.sp i/\(eK b k).sp d=b.sp j:=by
 have l:=BA h (qI b k);obtain⟨_,e,_⟩:=qJ (BB o (qI b k)) l;obtain⟨c,hi,f⟩:=Ib e a.ci m;obtain⟨d,p,g⟩:=Ib e a.bj n;exact⟨c,d,⟨a.jE,a.tl,e,fun s hs=>a.qj s ((qI b k).subset hs),hi,p⟩,f,g⟩
theorem Tv{t b:ar}{aw az:List Nat}{f g k:Nat}(h:gn t b aw az=0)(a:gV t (eK b k) aw az f g):gn t (eK b k) aw az=0:=by
 obtain⟨d,_,_,e⟩:=xT h;have c:=BA d (qI b k);rw[gn,if_neg (by simp[c]),a.ci.2.2,a.bj.2.2,if_neg s_,if_neg e]
theorem BH{r:Int}{p q:V2}{ex:List (List Nat)}:∀{l:List ch},(∀s∈l,s.name≠[])->(dG r p q ex l=[]↔∀s∈l,(!decide (s.name∈ex)&&lP r (vP s.pt) p q)=false)
 |[],_=>by simp[dG]
 |s::l,h=>by
  have a:=BH (r:=r) (p:=p) (q:=q) (ex:=ex) (l:=l) (fun s hs=>h s (dl _ hs));have hs:=h s ea;rw[dG]
  by_cases e:(!decide (s.name∈ex)&&lP r (vP s.pt) p q)=true
  ·rw[if_pos e];refine⟨fun h=>absurd h hs,fun h=>?_⟩;rw[h s ea]at e;cases e
  ·rw[if_neg e,a];rw[Bool.not_eq_true]at e;refine⟨fun h x hx=>?_,fun h x hx=>h x (dl _ hx)⟩;rcases ge.1 hx with rfl|hx
   ·exact e
   ·exact h x hx
theorem HP{r:Int}{p q:V2}{ex:List (List Nat)}{l b:List ch}(a:∀s∈l,s.name≠[])(hs:b.Sublist l)(h:dG r p q ex l=[]):dG r p q ex b=[]:=
 (BH (fun s h=>a s (hs.subset h))).2 (fun s c=>(BH a).1 h s (hs.subset c))
theorem xR{r:Int}{p q:V2}{ex:List (List Nat)}:∀{l:List ch},dG r p q ex l≠[]->∃s∈l,s.name=dG r p q ex l/\s.name∉ex/\lP r (vP s.pt) p q=true
 |[],h=>absurd rfl h
 |s::l,h=>by
  rw[dG]at h⊢
  by_cases e:(!decide (s.name∈ex)&&lP r (vP s.pt) p q)=true
  ·rw[if_pos e];rw[ao,aT,decide_eq_false_iff_not]at e;exact⟨s,ea,rfl,e.1,e.2⟩
  ·rw[if_neg e]at h⊢;obtain⟨x,hx,a,b,c⟩:=xR h;exact⟨x,dl _ hx,a,b,c⟩
theorem aLI{t b b':ar}{aw az:List Nat}{cp c a:V2}(d:∀s∈b.ak,s.name≠[])(hs:b'.ak.Sublist b.ak)(h:(uP t b aw az cp c a).2=0):(uP t b' aw az cp c a).2=0:=by
 rw[uP]at h⊢
 split at h
 ·cases h
 rename_i c1;rw[if_neg c1]
 split at h
 ·cases h
 rename_i c2;rw[if_neg c2]
 split at h
 ·rename_i c3;rw[if_pos (HP d hs c3)]
 ·cases h
theorem aHX{t b:ar}{aw az:List Nat}{i j c d k:Nat}(g:fw t b=0)(e:(eK b k).sp c=b.sp i)(f:(eK b k).sp d=b.sp j):
 ∀n∈fZ t b aw az i j 32,n∈fZ t (eK b k) aw az c d 32:=by
 intro n a;rw[fZ,fv,decide_eq_true_eq]at a⊢;refine⟨a.1,?_⟩;have h:=a.2;rw[fT]at h⊢;rw[e,f];exact aLI (fun s hs=>xQ g hs) (qI b k) h
theorem aLO{t b:ar}{aw az:List Nat}{j c k w:Nat}(e:fw t b=0)(d:(eK b k).sp c=b.sp j):
 ∀n∈sN t b aw az j w,n∈sN t (eK b k) aw az c w:=by
 intro n a;rw[sN,iG,fv,qC,List.isEmpty_iff]at a⊢;rw[d];exact⟨a.1,HP (fun s hs=>xQ e hs) (qI b k) a.2⟩
theorem ayJ{t b:ar}{aw az:List Nat}{i j:Nat}(k:oW b)(f:mQ t b aw az i j=false):xU t b aw az i j (jB t b aw az i j 32)=0:=by
 rw[xU,if_neg s_,mV];intro e l;obtain⟨n,d,rfl⟩:=dq.1 l;have o:=dk.1 d;have c:(fT t b aw az i j n).2≠0:=by
  rw[mQ,fp]at f;simpa using f n d
 have m:(jB t b aw az i j 32).getD n []=(fT t b aw az i j n).1:=by
  rw[jB,dp,en,eq o];rfl
 rw[m,kx];rw[fT,uP]at c⊢;generalize u5 t.aR (vP (b.sp j).pt) n=a at*;generalize vP (b.sp i).pt=cp at*;generalize vP (b.sp j).pt=p at*
 split at c
 ·rename_i c1;rw[if_pos c1,xk,if_pos rfl];rfl
 rename_i c1
 split at c
 ·rename_i c2;rw[if_neg c1,if_pos c2,xk,if_pos rfl];rfl
 rename_i c2
 split at c
 ·exact absurd rfl c
 rename_i c3;rw[if_neg c1,if_neg c2,if_neg c3];obtain⟨s,hs,e1,e2,e3⟩:=xR c3;have hf:=BG k hs;rw[e1]at hf e2;dsimp only;generalize dG t.aR cp a [aw,az] b.ak=N at*;rw[xk,if_neg c3,hf];dsimp only;rw[e3];have g:N≠aw:=fun e=>e2 (by simp[e]);have h:N≠az:=fun e=>e2 (by simp[e]);simp[g,h,uy,aU]
def AY(b:ar)(k:Nat):ar:={b with ak:=[b.sp k]}
theorem one_sub{b:ar}{k:Nat}(hk:k<b.ak.length):(AY b k).ak.Sublist b.ak:=List.singleton_sublist.2 (b3 (ar.dU hk))
theorem aGL{t b:ar}{p q:V2}{ex:List (List Nat)}(a:oW b)(h:dG t.aR p q ex b.ak≠[]):∃k,k<b.ak.length/\iH b (dG t.aR p q ex b.ak)=k/\dG t.aR p q [] (AY b k).ak=dG t.aR p q ex b.ak:=by
 obtain⟨s,hs,e1,e2,e3⟩:=xR h;have hf:=BG a hs;rw[e1]at hf;rcases sW b (dG t.aR p q ex b.ak)with⟨k,hk⟩|⟨_,e⟩
 ·refine⟨k,hk.2.1,hk.1,?_⟩;have:=hk.2.2;rw[hf]at this;injection this with e
  rw[AY];dsimp only;rw[<-e,dG,e3];simp[e1]
 ·rw[e]at hf;cases hf
end Go.aq
