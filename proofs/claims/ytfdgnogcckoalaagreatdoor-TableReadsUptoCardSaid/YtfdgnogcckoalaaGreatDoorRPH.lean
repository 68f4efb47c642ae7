import Derived.Test.YtfdgnogcckoalaaGreatDoorRPG
import Derived.Test.YtfdgnogcckoalaaGreatDoorRThC
/- Parts of a proof. -/
set_option maxRecDepth 100000
set_option maxHeartbeats 8000000
set_option linter.unusedSimpArgs false
set_option linter.unusedVariables false
set_option linter.unusedSectionVars false
open Go.Proofs.Tryz
open And renaming intro->am
open Bool renaming and_eq_true->ao, or_eq_true->ap
open Go.IntKind renaming i64->av
open List renaming take_of_length_le->ax, dropLast_subset->ay, mem_cons->aT, getElem?_eq_getElem->a0, cons_append->a1, take_length->a3, length_cons->a4, mem_append->a5, take->a6, append_assoc->a7, singleton_append->a8, not_mem_nil->a9, getElem_mem->bb, map_cons->be, mem_cons_of_mem->bi, drop_eq_getElem_cons->bk, any_eq_true->bl, all_eq_true->bo, drop_length->bv, mem_of_mem_take->b0, length_pos_iff->b1, length_append->b2, nil_append->b3, isSuffixOf->b4, mem_map->b5, map_nil->cb, range->cc
open Nat renaming succ_le_succ->ce, le_trans->ck, le_refl->cv
open UInt8 renaming ofNat->cx
namespace Go.au
open Go.au renaming c0->c0_, c1->c1_, c2->c2_, c4->c4_, e1->e1_, e2->e2_
open Go.Proofs
theorem SU(s:List Nat)(a:∀c∈s,c<256):Lib.hasSuffix (s.map cx) (([10]:List Nat).map cx)=decide (s.getLast?=some 10):=by
 rw[Lib.hasSuffix];rcases List.eq_nil_or_concat s with rfl|⟨t,x,rfl⟩
 ·rfl
 ·simp only[List.concat_eq_append]at a⊢;have hx:=a x s_;rw[List.getLast?_append,List.getLast?_singleton]
  by_cases h:x=10
  ·subst h;simp[b4]
  ·have b:¬(10:UInt8)=cx x:=by
    intro e;have:=congrArg UInt8.toNat e;simp at this;omega
   have e1:decide ((some x).or t.getLast?=some 10)=false:=by simp[h]
   rw[e1];simp only[b4,List.map_append,be,cb,List.reverse_append,List.reverse_cons,List.reverse_nil,b3,a8,List.isPrefixOf,Bool.and_eq_false_iff,beq_eq_false_iff_ne,ne_eq];exact .inl b
theorem Hz{x:List Nat}(a:∀c∈x,c<256):cL (x.map cx)=x:=by
 rw[cL,List.map_map]
 conv=>rhs;rw[<-List.map_id x]
 apply List.map_congr_left;intro c hc;have:=a c hc;simp;omega
def jb(s:List Nat):List Nat:=if s.getLast?=some 10 then s.dropLast else s
theorem Uu{s:List Nat}(a:∀c∈s,c<256):cL (Lib.trimSuffix (s.map cx) (([10]:List Nat).map cx))=jb s:=by
 rw[Lib.trimSuffix,SU s a,jb]
 by_cases h:s.getLast?=some 10
 ·rw[if_pos h];simp only[h,decide_true,if_true];have:=Hz (x:=s.dropLast) fun c hc=>a c (ay _ hc);rw[<-this];congr 1;rw[List.dropLast_eq_take,List.map_take];simp
 ·rw[if_neg h];simp only[h,decide_false];simpa using Hz a
theorem HG(s:List Nat)(h:s.length<=1048576)(g:∀c∈s,c<256):aA prog 58 [.str s,.str [10]] (.bool (decide (s.getLast?=some 10))):=by
 have a:=SU s g;refine jh (il func58 k_) fun w aa i _ j f=>?_;obtain⟨x,y,rfl,h1,b⟩:=lR f;obtain⟨bs,rfl,rfl⟩:=jQ h1;obtain⟨cs,rfl,d⟩:=jQ b;have e1:=rV bs.data.toList;have e2:=rV cs.data.toList;rw[d,e1,e2]at a;refine(strings_HasSuffix bs cs w (by simp[cL]at h;omega)).mono ?_;rintro e w' ⟨rfl,rfl⟩;exact⟨_,rfl,⟨cv _,fun _ _=>rfl,rfl,rfl⟩,fun w aa=>by rw[a];simp[aB]⟩
theorem HX(s:List Nat)(h:s.length<=1048576)(i:∀c∈s,c<256):aA prog 145 [.str s,.str [10]] (.str (jb s)):=by
 have a:=Uu i;refine jh (il func145 k_) fun w aa j _ k g=>?_;obtain⟨x,y,rfl,b,d⟩:=lR g;obtain⟨bs,rfl,rfl⟩:=jQ b;obtain⟨cs,rfl,f⟩:=jQ d;have e1:=rV bs.data.toList;have e2:=rV cs.data.toList;rw[f,e1,e2]at a;refine(strings_TrimSuffix bs cs w (by simp[cL]at h;omega)).mono ?_;rintro e w' ⟨rfl,rfl⟩;exact⟨_,rfl,⟨cv _,fun _ _=>rfl,rfl,rfl⟩,fun w aa=>by rw[<-a];exact rA _⟩
def dR(d:Bool)(t:az)(c:Int)(f:List (List Nat)):az×Int×Bool:=
 if dP f=false then(t,c,false)else
 match f with
 |[]=>(t,c,false)
 |w::r=>
  if w=[114,97,100,105,117,115]then
   match r with
   |[a]=>if c<=0/\d=true then({t with aX:=fX a},if(cr a).2=true then 0 else c,(cr a).2)else(t,c,false)
   |_=>(t,c,false)
  else if w=[99,111,114,110,101,114]then
   match r with
   |[a,b]=>if c<=1/\d=false then({t with cs:=t.cs++[⟨fX a,fX b⟩]},if((cr a).2&&(cr b).2)=true then 1 else c,(cr a).2&&(cr b).2)else(t,c,false)
   |_=>(t,c,false)
  else if w=[112,111,99,107,101,116]then
   match r with
   |[n,e,a,b]=>if c<=2/\d=false then({t with aF:=t.aF++[⟨n,fX e,a,b⟩]},if(cr e).2=true then 2 else c,(cr e).2)else(t,c,false)
   |_=>(t,c,false)
  else if w=[115,112,111,116]then
   match r with
   |[n,x,y]=>if c<=3/\d=false then({t with aj:=t.aj++[⟨n,⟨x,y⟩⟩]},3,true)else(t,c,false)
   |_=>(t,c,false)
  else(t,c,false)
def jv:List (List Nat)->Nat->az->Int->az×Int×Nat
 |[],_,t,a=>(t,a,0)
 |l::ls,i,t,a=>if(dR (decide (i=0)) t a (bR 32 l)).2.2=true then jv ls (i+1) (dR (decide (i=0)) t a (bR 32 l)).1 (dR (decide (i=0)) t a (bR 32 l)).2.1 else((dR (decide (i=0)) t a (bR 32 l)).1,(dR (decide (i=0)) t a (bR 32 l)).2.1,i+1)
def fa(t:az)(a:Int):Heap:=
 [.box false (.st 131 [.st 35 [.sl 2 t.cs.length 2 0 t.cs.length,.p (.int .i64 t.aX),.sl 3 t.aF.length 4 0 t.aF.length,.sl 4 t.aj.length 3 0 t.aj.length],.p .aK,.p (.int .i64 a)]),.cQ fB (eP 0),
  .arr .grow t.cs.length 2 (t.cs.map (AV.p∘bN)),.arr .grow t.aF.length 4 (t.aF.map (AV.p∘cG)),.arr .grow t.aj.length 3 (t.aj.map (AV.p∘aP))]
theorem aK0{i0:Bool}{t:az}{a:Int}{ws:List (List Nat)}(b:0<=a)(c:a<=3):(dR i0 t a ws).1.cs.length<=t.cs.length+1/\(dR i0 t a ws).1.aF.length<=t.aF.length+1/\(dR i0 t a ws).1.aj.length<=t.aj.length+1/\0<=(dR i0 t a ws).2.1/\(dR i0 t a ws).2.1<=3:=by
 unfold dR
 repeat' split
 all_goals simp
 all_goals (try omega)
theorem aK1{e:Bool}{t:az}{d:Int}{r:List (List Nat)}(h:¬(dP ([114,97,100,105,117,115]::r)=true/\d<=0/\r.length=1/\e=true)):dR e t d ([114,97,100,105,117,115]::r)=(t,d,false):=by
 unfold dR
 split
 ·rfl
 ·rename_i c;have c:dP ([114,97,100,105,117,115]::r)=true:=by simpa using c
  simp
  split
  ·rw[if_neg];rintro⟨a,b⟩;exact h ⟨c,a,rfl,b⟩
  ·rfl
theorem aK2{e:Bool}{t:az}{d:Int}{r:List (List Nat)}(h:¬(dP ([99,111,114,110,101,114]::r)=true/\d<=1/\r.length=2/\e=false)):dR e t d ([99,111,114,110,101,114]::r)=(t,d,false):=by
 unfold dR
 split
 ·rfl
 ·rename_i c;have c:dP ([99,111,114,110,101,114]::r)=true:=by simpa using c
  simp
  split
  ·rw[if_neg];rintro⟨a,b⟩;exact h ⟨c,a,rfl,b⟩
  ·rfl
theorem aK3{e:Bool}{t:az}{d:Int}{r:List (List Nat)}(h:¬(dP ([112,111,99,107,101,116]::r)=true/\d<=2/\r.length=4/\e=false)):dR e t d ([112,111,99,107,101,116]::r)=(t,d,false):=by
 unfold dR
 split
 ·rfl
 ·rename_i c;have c:dP ([112,111,99,107,101,116]::r)=true:=by simpa using c
  simp
  split
  ·rw[if_neg];rintro⟨a,b⟩;exact h ⟨c,a,rfl,b⟩
  ·rfl
theorem aK4{e:Bool}{t:az}{d:Int}{r:List (List Nat)}(h:¬(dP ([115,112,111,116]::r)=true/\d<=3/\r.length=3/\e=false)):dR e t d ([115,112,111,116]::r)=(t,d,false):=by
 unfold dR
 split
 ·rfl
 ·rename_i c;have c:dP ([115,112,111,116]::r)=true:=by simpa using c
  simp
  split
  ·rw[if_neg];rintro⟨a,b⟩;exact h ⟨c,a,rfl,b⟩
  ·rfl
theorem aK5{b:Bool}{t:az}{a:Int}{w:List Nat}{r:List (List Nat)}(c:¬w=[114,97,100,105,117,115])(d:¬w=[99,111,114,110,101,114])(e:¬w=[112,111,99,107,101,116])(f:¬w=[115,112,111,116]):dR b t a (w::r)=(t,a,false):=by
 unfold dR
 split
 ·rfl
 ·simp[c,d,e,f]
theorem ay5(s:List Nat)(hs:s.length<=100000)(P:∀c∈s,c<256)(n:List (List Nat))(D:n=bR 10 (jb s)):
 bW prog 59 (fa zT 0) [.ptr 0 [],.p (.str s),.map 1,.p (.bool true)] (fa (jv n 0 zT 0).1 (jv n 0 zT 0).2.1) (.p (.int .i64 (jv n 0 zT 0).2.2)):=by
 have T:=HX s o_ P;have uC:(jb s).length<=s.length:=by rw[jb];split<;>simp
 have M:=yf (jb s) 10 o_;have R:=mT 10 (jb s);have W:n.length<=100001:=by rw[D];omega
 have Q:∀l∈n,l.length<=100000:=fun l h=>by
  rw[D]at h;have:=nR h;omega
 rw[<-D]at M;clear D R;refine dU nf (i_ func59) mix (by simp[f59,fa,eP]) ?_;simp[f59];refine c2_ T ?_;simp;refine c2_ M ?_;simp;refine lp (α:=Nat×az×Int) (fun(i,t,f)=>⟨[(18,.p (.int .i64 i)),(17,.p (.int .i64 n.length)),(16,.p (.seq (n.map .str))),(3,.p (.bool true)),(2,.map 1),(0,.ptr 0 [])],fa t f⟩)
  (fun(i,t,f)=>i<=n.length/\t.cs.length<=i/\t.aF.length<=i/\t.aj.length<=i/\0<=f/\f<=3/\jv n 0 zT 0=jv (n.drop i) i t f) (fun(i,_,_)=>n.length-i) (0,zT,0) (by simp;simp[zT]) ?_ (hn:=by simp[zT,fa]) (hh:=by simp[zT,fa]) (hr:=by simp[zT,fa,eP]) (hr2:=by simp[zT,fa,eP])
 rintro⟨i,t,f⟩ ⟨O,z,A,B,K,L,e⟩;dsimp only at O z A B K L e⊢;have j:=bY (i:=i) o_
 by_cases hi:i<n.length
 case neg=>
  obtain rfl:i=n.length:=o_
  rw[bv,jv]at e;rw[e];simp[fa]
 rw[bk hi,jv]at e;have U:=Q _ (bb hi);have hc:=yf n[i] 32 o_;have o:=aK0 (i0:=decide (i=0)) (t:=t) (ws:=bR 32 n[i]) K L;have S:=vf 32 n[i];have X:=mT 32 n[i];have E:∀w∈bR 32 n[i],w.length<=1000000:=fun w h=>by have:=nR h;omega
 have C:=Hg (bR 32 n[i]) o_;simp[hi,fa];refine c2_ hc ?_;generalize bR 32 n[i]=ws at*;rcases ws with _|⟨w,r⟩
 ·exact(S rfl).elim
 have V:(i:Int)=0↔i=0:=o_
 have k:av.wrap 1=1:=by decide
 by_cases G:w=[114,97,100,105,117,115]
 ·subst G;have e0:¬(dP ([114,97,100,105,117,115]::r)=true/\f<=0/\r.length=1/\decide (i=0)=true)->dR (decide (i=0)) t f ([114,97,100,105,117,115]::r)=(t,f,false):=aK1;have u:av.wrap 2=2:=by decide
  simp[fB,eP,gU,ad];refine e2_ C ?_
  by_cases g:dP ([114,97,100,105,117,115]::r)=true
  case neg=>
   rw[e0 (fun a=>g a.1),if_neg s_]at e;rw[e];simp[g,j,k,ad]
   first|exact bE.og s_ s_ s_ s_ s_|exact⟨by repeat' first|rfl|apply am,bE.og s_ s_ s_ s_ s_⟩
  by_cases v:f<=0
  case neg=>
   have m:(0:Int)<f:=o_
   rw[e0 (fun a=>v a.2.1),if_neg s_]at e;rw[e];simp[g,m,j,k,ad]
   first|exact bE.og s_ s_ s_ s_ s_|exact⟨by repeat' first|rfl|apply am,bE.og s_ s_ s_ s_ s_⟩
  have m:¬(0:Int)<f:=o_
  by_cases q:r.length=1
  case neg=>
   have y:¬(r.length:Int)+1=2:=o_
   rw[e0 (fun a=>q a.2.2.1),if_neg s_]at e;rw[e];simp[g,m,y,q,u,j,k,ad]
   first|exact bE.og s_ s_ s_ s_ s_|exact⟨by repeat' first|rfl|apply am,bE.og s_ s_ s_ s_ s_⟩
  obtain⟨a,rfl⟩:∃a,r=[a]:=by
   match r,q with
   |[a],_=>exact⟨a,rfl⟩
  have hl:∀x∈[a],x.length<=1000000:=fun x hx=>E x (bi _ hx)
  by_cases c0:i=0
  case neg=>
   have F:=c0;rw[e0 (fun a=>c0 (by simpa using a.2.2.2)),if_neg s_]at e;rw[e];simp[g,m,u,c0,j,k,ad]
   first|exact bE.og s_ s_ s_ s_ s_|exact⟨by repeat' first|rfl|apply am,bE.og s_ s_ s_ s_ s_⟩
  have e1:dR (decide (i=0)) t f [[114,97,100,105,117,115],a]=({t with aX:=fX a},if(cr a).2=true then 0 else f,(cr a).2):=by simp[dR,g,v,c0]
  have gk:=UE t f a (hl a s_);rw[gA,gA]at gk;rw[e1]at e o;dsimp only at e o;simp[g,m,u,c0,ad];refine ef gk [0,2,3,4] ?_ (ak:=by simp[sig,fx]) (aG:=by simp[sig]) (hr:=s_);generalize (cr a).2=ok at*;rcases ok with _|_
  ·rw[if_neg s_]at e;simp at e;rw[e];simp[sig,fx,ke,aW,j,k,ad,c0]
   first|exact bE.og s_ s_ s_ s_ s_|exact⟨by repeat' first|rfl|apply am,bE.og s_ s_ s_ s_ s_⟩
  ·rw[if_pos rfl]at e;simp at e;simp[sig,fx,ke,aW,j,k,ad,c0];exact⟨by rfl,rd (i+1,{t with aX:=fX a},0) ⟨hi,ck o.1 (ce z),ck o.2.1 (ce A),ck o.2.2.1 (ce B),s_,s_,by simpa[c0]using e⟩ (h1:=by dsimp only;omega) (hn:=by simp[fa,fB,eP]) (he:=by simp[c0]) (hh:=by simp[fa,fB,eP]) (hr:=by simp[fa,fB,eP]) (hr2:=by simp[fa,fB,eP])⟩
 by_cases H:w=[99,111,114,110,101,114]
 ·subst H;have e0:¬(dP ([99,111,114,110,101,114]::r)=true/\f<=1/\r.length=2/\decide (i=0)=false)->dR (decide (i=0)) t f ([99,111,114,110,101,114]::r)=(t,f,false):=aK2;have u:av.wrap 3=3:=by decide
  simp[fB,eP,gU,ad];refine e2_ C ?_
  by_cases g:dP ([99,111,114,110,101,114]::r)=true
  case neg=>
   rw[e0 (fun a=>g a.1),if_neg s_]at e;rw[e];simp[g,j,k,ad]
   first|exact bE.og s_ s_ s_ s_ s_|exact⟨by repeat' first|rfl|apply am,bE.og s_ s_ s_ s_ s_⟩
  by_cases v:f<=1
  case neg=>
   have m:(1:Int)<f:=o_
   rw[e0 (fun a=>v a.2.1),if_neg s_]at e;rw[e];simp[g,m,j,k,ad]
   first|exact bE.og s_ s_ s_ s_ s_|exact⟨by repeat' first|rfl|apply am,bE.og s_ s_ s_ s_ s_⟩
  have m:¬(1:Int)<f:=o_
  by_cases q:r.length=2
  case neg=>
   have y:¬(r.length:Int)+1=3:=o_
   rw[e0 (fun a=>q a.2.2.1),if_neg s_]at e;rw[e];simp[g,m,y,q,u,j,k,ad]
   first|exact bE.og s_ s_ s_ s_ s_|exact⟨by repeat' first|rfl|apply am,bE.og s_ s_ s_ s_ s_⟩
  obtain⟨a,b,rfl⟩:∃a b,r=[a,b]:=by
   match r,q with
   |[a,b],_=>exact⟨a,b,rfl⟩
  have hl:∀x∈[a,b],x.length<=1000000:=fun x hx=>E x (bi _ hx)
  by_cases c0:i=0
  case pos=>
   have F:=c0;rw[e0 (fun a=>by simp[c0]at a),if_neg s_]at e;rw[e];simp[g,m,u,c0,j,k,ad]
   first|exact bE.og s_ s_ s_ s_ s_|exact⟨by repeat' first|rfl|apply am,bE.og s_ s_ s_ s_ s_⟩
  have e1:dR (decide (i=0)) t f [[99,111,114,110,101,114],a,b]=({t with cs:=t.cs++[⟨fX a,fX b⟩]},if((cr a).2&&(cr b).2)=true then 1 else f,((cr a).2&&(cr b).2)):=by simp[dR,g,v,c0]
  have gk:=UG t f a b (hl a s_) (hl b s_) o_;rw[gA,gA]at gk;rw[e1]at e o;dsimp only at e o;simp[g,m,u,c0,ad];refine ef gk [0,2,3,4] ?_ (ak:=by simp[sig,fx]) (aG:=by simp[sig]) (hr:=s_);generalize ((cr a).2&&(cr b).2)=ok at*;rcases ok with _|_
  ·rw[if_neg s_]at e;simp at e;rw[e];simp[sig,fx,ke,aW,j,k,ad,c0]
   first|exact bE.og s_ s_ s_ s_ s_|exact⟨by repeat' first|rfl|apply am,bE.og s_ s_ s_ s_ s_⟩
  ·rw[if_pos rfl]at e;simp at e;simp[sig,fx,ke,aW,j,k,ad,c0];exact⟨by rfl,rd (i+1,{t with cs:=t.cs++[⟨fX a,fX b⟩]},1) ⟨hi,ck o.1 (ce z),ck o.2.1 (ce A),ck o.2.2.1 (ce B),s_,s_,by simpa[c0]using e⟩ (h1:=by dsimp only;omega) (hn:=by simp[fa,fB,eP]) (he:=by simp[c0]) (hh:=by simp[fa,fB,eP]) (hr:=by simp[fa,fB,eP]) (hr2:=by simp[fa,fB,eP])⟩
 by_cases I:w=[112,111,99,107,101,116]
 ·subst I;have e0:¬(dP ([112,111,99,107,101,116]::r)=true/\f<=2/\r.length=4/\decide (i=0)=false)->dR (decide (i=0)) t f ([112,111,99,107,101,116]::r)=(t,f,false):=aK3;have u:av.wrap 5=5:=by decide
  simp[fB,eP,gU,ad];refine e2_ C ?_
  by_cases g:dP ([112,111,99,107,101,116]::r)=true
  case neg=>
   rw[e0 (fun a=>g a.1),if_neg s_]at e;rw[e];simp[g,j,k,ad]
   first|exact bE.og s_ s_ s_ s_ s_|exact⟨by repeat' first|rfl|apply am,bE.og s_ s_ s_ s_ s_⟩
  by_cases v:f<=2
  case neg=>
   have m:(2:Int)<f:=o_
   rw[e0 (fun a=>v a.2.1),if_neg s_]at e;rw[e];simp[g,m,j,k,ad]
   first|exact bE.og s_ s_ s_ s_ s_|exact⟨by repeat' first|rfl|apply am,bE.og s_ s_ s_ s_ s_⟩
  have m:¬(2:Int)<f:=o_
  by_cases q:r.length=4
  case neg=>
   have y:¬(r.length:Int)+1=5:=o_
   rw[e0 (fun a=>q a.2.2.1),if_neg s_]at e;rw[e];simp[g,m,y,q,u,j,k,ad]
   first|exact bE.og s_ s_ s_ s_ s_|exact⟨by repeat' first|rfl|apply am,bE.og s_ s_ s_ s_ s_⟩
  obtain⟨a,b,c,d,rfl⟩:∃a b c d,r=[a,b,c,d]:=by
   match r,q with
   |[a,b,c,d],_=>exact⟨a,b,c,d,rfl⟩
  have hl:∀x∈[a,b,c,d],x.length<=1000000:=fun x hx=>E x (bi _ hx)
  by_cases c0:i=0
  case pos=>
   have F:=c0;rw[e0 (fun a=>by simp[c0]at a),if_neg s_]at e;rw[e];simp[g,m,u,c0,j,k,ad]
   first|exact bE.og s_ s_ s_ s_ s_|exact⟨by repeat' first|rfl|apply am,bE.og s_ s_ s_ s_ s_⟩
  have e1:dR (decide (i=0)) t f [[112,111,99,107,101,116],a,b,c,d]=({t with aF:=t.aF++[⟨a,fX b,c,d⟩]},if(cr b).2=true then 2 else f,(cr b).2):=by simp[dR,g,v,c0]
  have gk:=UF t f a b c d (hl b s_) o_;rw[gA,gA]at gk;rw[e1]at e o;dsimp only at e o;simp[g,m,u,c0,ad];refine ef gk [0,2,3,4] ?_ (ak:=by simp[sig,fx]) (aG:=by simp[sig]) (hr:=s_);generalize (cr b).2=ok at*;rcases ok with _|_
  ·rw[if_neg s_]at e;simp at e;rw[e];simp[sig,fx,ke,aW,j,k,ad,c0]
   first|exact bE.og s_ s_ s_ s_ s_|exact⟨by repeat' first|rfl|apply am,bE.og s_ s_ s_ s_ s_⟩
  ·rw[if_pos rfl]at e;simp at e;simp[sig,fx,ke,aW,j,k,ad,c0];exact⟨by rfl,rd (i+1,{t with aF:=t.aF++[⟨a,fX b,c,d⟩]},2) ⟨hi,ck o.1 (ce z),ck o.2.1 (ce A),ck o.2.2.1 (ce B),s_,s_,by simpa[c0]using e⟩ (h1:=by dsimp only;omega) (hn:=by simp[fa,fB,eP]) (he:=by simp[c0]) (hh:=by simp[fa,fB,eP]) (hr:=by simp[fa,fB,eP]) (hr2:=by simp[fa,fB,eP])⟩
 by_cases J:w=[115,112,111,116]
 ·subst J;have e0:¬(dP ([115,112,111,116]::r)=true/\f<=3/\r.length=3/\decide (i=0)=false)->dR (decide (i=0)) t f ([115,112,111,116]::r)=(t,f,false):=aK4;have u:av.wrap 4=4:=by decide
  simp[fB,eP,gU,ad];refine e2_ C ?_
  by_cases g:dP ([115,112,111,116]::r)=true
  case neg=>
   rw[e0 (fun a=>g a.1),if_neg s_]at e;rw[e];simp[g,j,k,ad]
   first|exact bE.og s_ s_ s_ s_ s_|exact⟨by repeat' first|rfl|apply am,bE.og s_ s_ s_ s_ s_⟩
  by_cases v:f<=3
  case neg=>
   have m:(3:Int)<f:=o_
   rw[e0 (fun a=>v a.2.1),if_neg s_]at e;rw[e];simp[g,m,j,k,ad]
   first|exact bE.og s_ s_ s_ s_ s_|exact⟨by repeat' first|rfl|apply am,bE.og s_ s_ s_ s_ s_⟩
  have m:¬(3:Int)<f:=o_
  by_cases q:r.length=3
  case neg=>
   have y:¬(r.length:Int)+1=4:=o_
   rw[e0 (fun a=>q a.2.2.1),if_neg s_]at e;rw[e];simp[g,m,y,q,u,j,k,ad]
   first|exact bE.og s_ s_ s_ s_ s_|exact⟨by repeat' first|rfl|apply am,bE.og s_ s_ s_ s_ s_⟩
  obtain⟨a,b,c,rfl⟩:∃a b c,r=[a,b,c]:=by
   match r,q with
   |[a,b,c],_=>exact⟨a,b,c,rfl⟩
  have hl:∀x∈[a,b,c],x.length<=1000000:=fun x hx=>E x (bi _ hx)
  by_cases c0:i=0
  case pos=>
   have F:=c0;rw[e0 (fun a=>by simp[c0]at a),if_neg s_]at e;rw[e];simp[g,m,u,c0,j,k,ad]
   first|exact bE.og s_ s_ s_ s_ s_|exact⟨by repeat' first|rfl|apply am,bE.og s_ s_ s_ s_ s_⟩
  have e1:dR (decide (i=0)) t f [[115,112,111,116],a,b,c]=({t with aj:=t.aj++[⟨a,⟨b,c⟩⟩]},if true=true then 3 else f,true):=by simp[dR,g,v,c0]
  have gk:=azk t f a b c o_;rw[gA,gA]at gk;rw[e1]at e o;dsimp only at e o;simp[g,m,u,c0,ad];refine ef gk [0,2,3,4] ?_ (ak:=by simp[sig,fx]) (aG:=by simp[sig]) (hr:=s_);rw[if_pos rfl]at e;simp at e;simp[sig,fx,ke,aW,j,k,ad,c0];exact⟨by rfl,rd (i+1,{t with aj:=t.aj++[⟨a,⟨b,c⟩⟩]},3) ⟨hi,ck o.1 (ce z),ck o.2.1 (ce A),ck o.2.2.1 (ce B),s_,s_,by simpa[c0]using e⟩ (h1:=by dsimp only;omega) (hn:=by simp[fa,fB,eP]) (he:=by simp[c0]) (hh:=by simp[fa,fB,eP,aP,fE]) (hr:=by simp[fa,fB,eP]) (hr2:=by simp[fa,fB,eP])⟩
 rw[aK5 G H I J,if_neg s_]at e;rw[e];have N:(w==[114,97,100,105,117,115])=false:=by simpa using G
 have f2:(w==[99,111,114,110,101,114])=false:=by simpa using H
 have f3:(w==[112,111,99,107,101,116])=false:=by simpa using I
 have f4:(w==[115,112,111,116])=false:=by simpa using J
 simp[fB,eP,gU,N,f2,f3,f4,j,k,ad]
 first|exact bE.og s_ s_ s_ s_ s_|exact⟨by repeat' first|rfl|apply am,bE.og s_ s_ s_ s_ s_⟩
def sB(i:Nat)(st a:Int):Prop:=(i=0/\st=0/\a=0)\/(0<i/\((a=0/\st=1)\/(a=1/\st=1)\/(a=2/\st=2)\/(a=3/\st=3)))
theorem aMN{l:List Nat}(h:dP (bR 32 l)=false):dY l=[]:=by rw[dY,if_neg (by rw[h];simp)]
theorem aMO{l:List Nat}(h:dP (bR 32 l)=true):dY l=bR 32 l:=by rw[dY,if_pos h]
theorem aK6{i:Nat}{t:az}{st k:Int}(l:List Nat)(j:sB i st k):
 (dR (decide (i=0)) t k (bR 32 l)).2.2=(dK t st (dY l)).2.2/\((dK t st (dY l)).2.2=true->(dR (decide (i=0)) t k (bR 32 l)).1=(dK t st (dY l)).1/\sB (i+1) (dK t st (dY l)).2.1 (dR (decide (i=0)) t k (bR 32 l)).2.1):=by
 rcases g:dP (bR 32 l)with _|_
 ·rw[aMN g];unfold dR;simp[g,dK]
 rw[aMO g];unfold dR;simp only[g,reduceCtorEq,if_false];generalize bR 32 l=ws at*;rcases ws with _|⟨w,r⟩
 ·simp[dK]
 unfold dK;dsimp only
 by_cases m:w=[114,97,100,105,117,115]
 ·rw[if_pos m,if_pos m];rcases r with _|⟨a,_|⟨b,r⟩⟩
  ·simp
  ·rcases j with⟨rfl,rfl,rfl⟩|⟨hi,⟨rfl,rfl⟩|⟨rfl,rfl⟩|⟨rfl,rfl⟩|⟨rfl,rfl⟩⟩
   ·rcases hk:(cr a).2 with _|_
    ·simp[hk]
    ·have e1:=xX hk;simp only[hk,e1];simp[sB]
   all_goals
    have f:¬i=0:=o_
    simp[f]
  ·simp
 rw[if_neg m,if_neg m]
 by_cases n:w=[99,111,114,110,101,114]
 ·rw[if_pos n,if_pos n];rcases r with _|⟨a,_|⟨b,_|⟨c,r⟩⟩⟩
  ·simp
  ·simp
  ·rcases j with⟨rfl,rfl,rfl⟩|⟨hi,⟨rfl,rfl⟩|⟨rfl,rfl⟩|⟨rfl,rfl⟩|⟨rfl,rfl⟩⟩
   ·simp
   all_goals
    have f:¬i=0:=o_
    simp[f]
   all_goals
    intro h q;have e1:=xX h;have e2:=xX q;simp[h,q,e1,e2,sB]
  ·simp
 rw[if_neg n,if_neg n]
 by_cases o:w=[112,111,99,107,101,116]
 ·rw[if_pos o,if_pos o];rcases r with _|⟨a,_|⟨b,_|⟨c,_|⟨d,_|⟨e,r⟩⟩⟩⟩⟩
  ·simp
  ·simp
  ·simp
  ·simp
  ·rcases j with⟨rfl,rfl,rfl⟩|⟨hi,⟨rfl,rfl⟩|⟨rfl,rfl⟩|⟨rfl,rfl⟩|⟨rfl,rfl⟩⟩
   ·simp
   all_goals
    have f:¬i=0:=o_
    simp[f]
   all_goals
    intro h;have e1:=xX h;simp[h,e1,sB]
  ·simp
 rw[if_neg o,if_neg o]
 by_cases p:w=[115,112,111,116]
 ·rw[if_pos p,if_pos p];rcases r with _|⟨a,_|⟨b,_|⟨c,_|⟨d,r⟩⟩⟩⟩
  ·simp
  ·simp
  ·simp
  ·rcases j with⟨rfl,rfl,rfl⟩|⟨hi,⟨rfl,rfl⟩|⟨rfl,rfl⟩|⟨rfl,rfl⟩|⟨rfl,rfl⟩⟩
   ·simp
   all_goals
    have f:¬i=0:=o_
    simp[f,sB]
  ·simp
 rw[if_neg p,if_neg p];simp
theorem I9:∀(a:List (List Nat))(i:Nat)(t:az)(st b:Int),sB i st b->
 (match ff a t st i with
 |(none,k)=>(jv a i t b).2.2=k/\0<k
 |(some e,_)=>(jv a i t b).2.2=0/\(jv a i t b).1=e)
 |[],i,t,st,b,_=>by simp[ff,jv]
 |l::a,i,t,st,b,h=>by
  obtain⟨c,d⟩:=aK6 (t:=t) l h;rw[ff,jv];rcases hk:(dK t st (dY l)).2.2 with _|_
  ·rw[hk]at c;rw[if_neg s_,if_neg (by rw[c];simp)];simp
  ·rw[hk]at c d;rw[if_pos rfl,if_pos c,(d rfl).1];exact I9 a (i+1) _ _ _ (d rfl).2
theorem Up(s:List Nat):bI [ba (decide (4096<s.length)) 26,ba (!decide (s.getLast?=some 10)) 28]=eS s:=by
 by_cases h1:4096<s.length
 ·simp[bI,ba,eS,h1]
 ·by_cases a:s.getLast?=some 10
  ·simp[bI,ba,eS,h1,a]
  ·simp[bI,ba,eS,h1,a]
theorem ayI(t:az)(f:gF t):bW prog 51 (sJ t) [.st 35 [.sl 0 t.cs.length 2 0 t.cs.length,.p (.int .i64 t.aX),.sl 1 t.aF.length 4 0 t.aF.length,.sl 2 t.aj.length 3 0 t.aj.length]] (A4 t) (.p (.int .i64 (cB t))):=by
 have hf:A4 t=(sJ t).map jn:=by simp[A4,sJ,BR]
 rw[hf];have e:iH (sJ t):=by
  rw[sJ,xp,xp,xp];exact u7 (u7 (u7 BU))
 refine aA.FA 9 (xJ t f) (i_ func51).enters e ?_;have b:a6 t.cs.length (t.cs.map (AV.p∘bN))=t.cs.map (AV.p∘bN):=ax s_;have c:a6 t.aF.length (t.aF.map (AV.p∘cG))=t.aF.map (AV.p∘cG):=ax s_;have d:a6 t.aj.length (t.aj.map (AV.p∘aP))=t.aj.map (AV.p∘aP):=ax s_;have a:cz t=.st 35 [.seq (t.cs.map bN),.int .i64 t.aX,.seq (t.aF.map cG),.seq (t.aj.map aP)]:=rfl;rw[a];simp[sJ,b,c,d,sU]
theorem aza(s:List Nat)(hs:s.length<=100000)(d:∀c∈s,c<256)(a:List (List Nat))(e:a=bR 10 (jb s)):
 bW prog 59 [.box false (.p jr),.cQ fB (eP 0)] [.ptr 0 [],.p (.str s),.map 1,.p (.bool true)] (fa (jv a 0 zT 0).1 (jv a 0 zT 0).2.1) (.p (.int .i64 (jv a 0 zT 0).2.2)):=by
 refine bW.I8 (H1:=fa zT 0) ?_ ?_ (ay5 s hs d a e)
 ·refine bE.og s_ s_ (by simp[fa,zT,jr,fB,eP]) s_ (by simp[fa,zT,fB,eP])
 ·intro b o h;rcases b with _|_|b
  ·simp at h;exact .inr ⟨_,_,h.symm,rfl⟩
  ·left;simpa[fa]using h
  ·simp at h
theorem Bw:∀(a:List (List Nat))(t:az)(st:Int)(i:Nat),gF t->t.cs.length<=i->t.aF.length<=i->t.aj.length<=i->i+a.length<=999999->(∀l∈a,l.length<=1000000/\∀c∈l,c<256)->∀b k,ff a t st i=(some b,k)->gF b/\b.cs.length<=i+a.length/\b.aF.length<=i+a.length/\b.aj.length<=i+a.length
 |[],t,st,i,h,d,f,g,_,_,b,k,e=>by
  simp[ff]at e;obtain⟨rfl,_⟩:=e;exact⟨h,d,f,g⟩
 |l::a,t,st,i,h,d,f,g,o,j,b,k,e=>by
  rw[ff]at e;simp only[a4]at o;obtain⟨m,n⟩:=j l s_;have p:=Ip t st (dY l)
  split at e
  ·obtain⟨q1,q,r,q4⟩:=Bw a _ _ (i+1) (aLu h o_ o_ o_ (I5 m n)) o_ o_ o_ o_ (fun x hx=>j x (by simp[hx])) b k e;simp only[a4];exact⟨q1,o_,o_,o_⟩
  ·simp at e
theorem Ul{s:List Nat}(hs:s.length<=100000)(a:∀c∈s,c<256):gF (fN s).1:=by
 rw[fN]
 split
 ·exact vo
 ·have b:=mT 10 s.dropLast;have hl:∀l∈bR 10 s.dropLast,l.length<=1000000/\∀c∈l,c<256:=fun l h=>by
   have:=nR h;exact⟨by simp at this;omega,fun c hc=>a c (ay _ (sT h c hc))⟩
  split
  ·exact vo
  ·rename_i t k e
   split
   ·exact vo
   ·exact(Bw _ zT 0 0 vo (by simp[zT]) (by simp[zT]) (by simp[zT]) (by simp at b;omega) hl t k e).1
theorem BT(s:List Nat)(hs:s.length<=100000)(g:∀c∈s,c<256):aA prog 12 [.str s] (.aE [cz (fN s).1,.int .i64 (fN s).2.1,.int .i64 (fN s).2.2]):=by
 have hf:=nN [ba (decide (4096<s.length)) 26,ba (!decide (s.getLast?=some 10)) 28] s_;rw[Up]at hf;have r:=gQ (decide (4096<s.length)) 26;have u:=gQ (!decide (s.getLast?=some 10)) 28;have i:=HG s o_ g;have f:cz zT=.st 35 [.seq [],.int .i64 0,.seq [],.seq []]:=rfl;refine aM nf (i_ func12) mix (by simp[f12]) ?_;simp[f12];refine c2_ r ?_ (h1:=by simp;omega);simp;refine c2_ i ?_;simp;refine c2_ u ?_ (h1:=s_);simp;refine cp (h1:=?g1) hf (by simp;exact⟨rfl,rfl⟩) ?_
 case g1=>simp
 simp
 by_cases a:eS s=0
 case neg=>
  have e:fN s=(zT,0,eS s):=by rw[fN,if_pos a]
  rw[e];simp[a,f,ad]
 have o:fN s=match ff (bR 10 s.dropLast) zT 0 0 with
   |(none,k)=>(zT,(k:Int),25)
   |(some t,_)=>if cB t≠0 then(zT,0,cB t)else(t,0,0):=by rw[fN,if_neg (by simp[a])];rfl
 have m:jb s=s.dropLast:=by
  rw[jb,if_pos];rw[eS]at a
  split at a
  ·cases a
  ·split at a
   ·assumption
   ·cases a
 have j:=mT 10 s.dropLast;have hl:∀l∈bR 10 s.dropLast,l.length<=1000000/\∀c∈l,c<256:=fun l h=>by
  have:=nR h;exact⟨by simp at this;omega,fun c hc=>g c (ay _ (sT h c hc))⟩
 have gr:=aza s hs g (bR 10 s.dropLast) (by rw[m]);have b:=I9 (bR 10 s.dropLast) 0 zT 0 0 (.inl ⟨rfl,rfl,rfl⟩);have z:=Bw (bR 10 s.dropLast) zT 0 0 vo (by simp[zT]) (by simp[zT]) (by simp[zT]) (by simp at j;omega) hl;rw[o];clear o hf r u i hl j m;generalize bR 10 s.dropLast=ls at*;generalize jv ls 0 zT 0=A at*;generalize ff ls zT 0 0=R at*;obtain⟨t,D,n⟩:=A;obtain⟨v,k⟩:=R;have y:=Ua;simp[a,ad];refine cf y [2] ?_ (ak:=by simp[sig,jr]) (aG:=by simp[sig]) (hr:=by simp[jr]);simp[sig,aW,jr,fB,eP];rw[fa]at gr;refine cf gr [2,3] ?_ (ak:=by simp[sig,jr,fB,eP]) (aG:=by simp[sig]) (hr:=by simp[jr,fB,eP]);rcases v with _|t1
 ·dsimp only at b;obtain⟨d,a2⟩:=b;subst d;have w:(0:Int)<(n:Int):=by omega
  simp[sig,aW,fx,a2,w,f,ad]
 ·dsimp only at b;obtain⟨d,a2⟩:=b;subst d a2;obtain⟨k1,k2,k3,k4⟩:=z _ _ rfl;have gk:=ayI _ k1;rw[sJ,A4]at gk;have q1:a6 t.cs.length (t.cs.map (AV.p∘bN))=t.cs.map (AV.p∘bN):=ax s_;have B:a6 t.aF.length (t.aF.map (AV.p∘cG))=t.aF.map (AV.p∘cG):=ax s_;have C:a6 t.aj.length (t.aj.map (AV.p∘aP))=t.aj.map (AV.p∘aP):=ax s_;have x:cz t=.st 35 [.seq (t.cs.map bN),.int .i64 t.aX,.seq (t.aF.map cG),.seq (t.aj.map aP)]:=rfl;simp[sig,aW,fx,ad];refine cf gk [4,5,6] ?_ (ak:=by simp[sig,fx]) (aG:=by simp[sig]) (hr:=s_)
  by_cases q:cB t=0
  ·simp[aW,sig,q,ad,fx,x,q1,B,C,sU]
  ·simp[aW,sig,q,ad,fx,f]
theorem Uf{t:az}{b:List bD}{s:bD}:iK t b s=0↔isName s.name=true/\(∀o∈b,o.name≠s.name)/\dV s.pt=0/\0<=t.on (vP s.pt)/\(∀o∈b,¬gq t.aX (vP o.pt) (vP s.pt)<0):=by
 rw[iK]
 by_cases c1:isName s.name=false
 ·simp[c1]
 rw[if_neg c1]
 by_cases c2:(b.any fun o=>decide (o.name=s.name))=true
 ·rw[if_pos c2];rw[bl]at c2;obtain⟨o,a,c⟩:=c2;constructor
  ·intro h;cases h
  ·intro h;exact absurd (of_decide_eq_true c) (h.2.1 o a)
 rw[if_neg c2];have d:∀o∈b,o.name≠s.name:=fun o a e=>c2 (bl.2 ⟨o,a,decide_eq_true e⟩)
 by_cases c3:dV s.pt=0
 case neg=>simp[c3]
 simp only[c3,ne_eq,not_true_eq_false,if_false]
 by_cases c4:t.on (vP s.pt)<0
 ·rw[if_pos c4];constructor
  ·intro h;cases h
  ·intro h;omega
 rw[if_neg c4]
 by_cases c5:(b.any fun o=>decide (gq t.aX (vP o.pt) (vP s.pt)<0))=true
 ·rw[if_pos c5];rw[bl]at c5;obtain⟨o,a,c⟩:=c5;constructor
  ·intro h;cases h
  ·intro h;exact absurd (of_decide_eq_true c) (h.2.2.2.2 o a)
 rw[if_neg c5];exact⟨fun _=>⟨by simpa using c1,d,trivial,o_,fun o a e=>c5 (bl.2 ⟨o,a,decide_eq_true e⟩)⟩,fun _=>rfl⟩
theorem Ug{t b:az}:fW t b=0↔b.aj.length<=24/\∀j s,b.aj[j]?=some s->iK t (b.aj.take j) s=0:=by
 rw[fW]
 split
 ·rename_i h;constructor
  ·intro h;cases h
  ·intro h;omega
 ·rename_i hl;rw[l7];constructor
  ·intro h;refine⟨o_,fun j s hs=>?_⟩;have:=h j (List.getElem?_eq_some_iff.1 hs).1
   rwa [fR,hs]at this
  ·rintro⟨_,h⟩ j a;rw[fR,a0 a];exact h j _ (a0 a)
theorem yd{t b:az}:iM t b=0↔cB t=0/\fW t b=0:=by
 rw[iM]
 by_cases h:cB t=0
 ·simp[h]
 ·simp[h]
def gB(l:List bD)(i:Nat):List Nat:=(l.take i).flatMap jl
def ju(l:List bD):List Nat:=gB l l.length
structure ur(l:List bD):Prop where
 len:l.length<=24
 sp:∀s∈l,isName s.name=true/\bM s.pt.x=0/\bM s.pt.y=0
theorem yk{t b:az}(h:fW t b=0):ur b.aj:=by
 obtain⟨c,d⟩:=Ug.1 h;refine⟨c,fun s hs=>?_⟩;obtain⟨j,e⟩:=List.mem_iff_getElem?.1 hs;have:=Uf.1 (d j s e);have a:=ka this.2.2.1;exact⟨this.1,a.1,a.2⟩
theorem HP{l:List bD}{i:Nat}{s:bD}(h:l[i]?=some s):gB l (i+1)=gB l i++jl s:=x9 h
theorem HZ{l:List bD}(h:ur l)(i:Nat):(gB l i).length<=60000:=by
 have a:=nQ (f:=jl) (m:=2500) (l:=l.take i) fun p j=>by
  obtain⟨b,e,g⟩:=h.sp p (b0 j);exact BP b e g
 have c:=h.len;have d:(l.take i).length<=24:=by simp;omega
 rw[gB];omega
theorem HQ{l:List bD}(h:∀s∈l,ki s)(i:Nat):∀c∈gB l i,c<256:=
 ya (f:=jl) (l:=l.take i) (fun p a=>by
  have:=h p (b0 a);exact u3 (by intro x hx;simp at hx;rcases hx with rfl|rfl|rfl|rfl;(·decide);(·exact this.1.2);(·exact this.2.1.2);(·exact this.2.2.2)))
theorem T6(l:List bD)(e:ur l):aA prog 23 [.seq (l.map aP)] (.aE [.str (kF (ju l)).1,.int .i64 (kF (ju l)).2]):=by
 refine aM nf (i_ func23) mix (by simp[f23]) ?_;have m:=HZ e;have hl:=e.len;simp[f23,ad];refine lp (α:=Nat) (fun i=>⟨[(5,.p (.int .i64 i)),(4,.p (.str (gB l i))),(0,.p (.seq (l.map aP)))],[]⟩)
  (fun i=>i<=l.length) (fun i=>l.length-i) 0 s_ ?_ (he:=by simp[gB])
 intro i hi
 by_cases b:i<l.length
 ·have h:l[i]?=some l[i]:=a0 b;have g:=bY (i:=i) o_;obtain⟨j,a,k⟩:=e.sp _ (bb b);have n:=BP j a k;have f:=HP h;have q:=m i;generalize hc:l[i]=c at*;simp[jl,fg,dE]at f n;simp[b,hc,g,ad];refine⟨o_,o_,o_,o_,o_,o_,o_,?_⟩;exact rd (i+1) b (he:=by simp[f,g])
 obtain rfl:i=l.length:=o_
 have o:ju l=gB l l.length:=rfl;rw[o,kF];generalize gB l l.length=T at*
 by_cases a:4096<T.length
 ·have d:(4096:Int)<(T.length:Int):=by omega
  simp[a,d]
 ·have d:¬(4096:Int)<(T.length:Int):=by omega
  simp[a,d]
section
variable{P:Program}{ag:FuncId->Bool}{dst:Option Tmp}{ty:Nat}{pos:String}{af:Array Edge}{g:Option (Nat×Bool)}{env:Env}{heap:Heap}{K:aU->Prop}
theorem UI{x:Operand}{d:Array TypeId}(hx:ev env x=.p .aK)(hk:K {v:=.p .dc}):dN P ag ⟨dst,.call {callee:=.builtin .unsafeSliceData,args:=#[x],argTypes:=d},ty,pos,af,g⟩ ⟨env,heap⟩ K ():=by
 show(match ev env x with
   | .p .aK=>K {v:=.p .dc}
   | .sl b aq ai off len=>(match heap[b]? with
    |some (.arr k c a es)=>aq=c/\ai=a/\((k.gr=true/\es=[]/\K {v:=.p .dc,ak:=[(b,.arr k c a es)]})\/(0<len/\off+len<=es.length/\K {v:=.b8 b aq ai off [],ak:=[(b,.arr k c a es)]}))
    |_=>False)
   |_=>False)
 rw[hx];exact hk
theorem axu{x y:Operand}{a:Array TypeId}(hx:ev env x= .p .dc)(c:ev env y= .p (.int .i64 0))(b:a.size=2)(hk:K {v:= .p (.str [])}):
 dN P ag ⟨dst,.call {callee:=.builtin .unsafeString,args:=#[x,y],argTypes:=a},ty,pos,af,g⟩ ⟨env,heap⟩ K ():=by
 have h:fC P ag ⟨dst,.call {callee:=.builtin .unsafeString,args:=#[x,y],argTypes:=a},ty,pos,af,g⟩ (ev env) heap K:=by
  unfold fC;simp only[be,cb,hx,c];exact⟨trivial,b,hk⟩
 exact h
end
theorem azm:bW prog 142 [.box false (.p (.st 117 [.dc,.aK]))] [.ptr 0 []] [.box false (.p (.st 117 [.dc,.aK]))] (.p (.str [])):=by
 refine dU nf (i_ func142) mix (by simp[f142]) ?_;simp[f142];refine UI rfl ?_;simp;refine axu rfl rfl rfl ?_;simp
 try (repeat' with_reducible refine am ?_ ?_
      all_goals rfl)
theorem ayV:bW prog 55 [.box false (.p (.st 117 [.dc,.aK]))] [.ptr 0 []] [.box false (.p (.st 117 [.dc,.aK]))] (.p (.aE [.str [],.int .i64 0])):=by
 refine dU nf (i_ func55) mix (by simp[f55]) ?_;simp[f55];refine cf ayU [0] ?_;simp[aW,sig];refine cf azm [0] ?_;simp[aW,sig]
theorem Hv(t b:az)(D:gF t)(m:nT b):aA prog 19 [cz t,.seq (b.aj.map aP)] (.aE [.str (if iM t b≠0 then[]else(kF (ju b.aj)).1),.int .i64 (if iM t b≠0 then iM t b else(kF (ju b.aj)).2)]):=by
 have w:=Br t b D m;refine aM nf (i_ func19) mix (by simp[f19]) ?_;simp[f19,ad];refine c2_ w ?_
 by_cases f:iM t b=0
 case neg=>simp[f]
 have g:ur b.aj:=yk (yd.1 f).2;have h:=HZ g;have v:=HQ m.sp;have J:=g.len;simp[f,ad];generalize G:b.aj=l at*;refine lp (α:=Nat) (fun i=>match i with
  |0=>⟨[(18,.p (.int .i64 0)),(17,.p (.int .i64 l.length)),(16,.p (.seq (l.map aP))),(7,.ptr 1 [])],[.hole,.box false (.p (.st 117 [.dc,.aK]))]⟩
  |q+1=>⟨[(18,.p (.int .i64 ((q+1:Nat):Int))),(17,.p (.int .i64 l.length)),(16,.p (.seq (l.map aP))),(7,.ptr 1 [])],[.hole,.box false (.st 117 [.ptr 1 [],.sl 4 q 1 0 (gB l (q+1)).length]),.hole,.hole,.arr .bytes q 1 (bK (gB l (q+1)))]⟩)
  (fun i=>i<=l.length) (fun i=>l.length-i) 0 s_ ?_
 intro i hi
 by_cases d:i<l.length
 ·have s:l[i]?=some l[i]:=a0 d;have L:=bY (i:=i) o_;obtain⟨k,a,u⟩:=g.sp _ (bb d);have z:=BP k a u;have j:=HP s;have H:=h i;generalize hc:l[i]=c at*;have K:(dE [32] [[98,97,108,108],c.name,c.pt.x,c.pt.y]).length<=5000:=by
   simp only[jl,fg,b2]at z;omega
  rcases i with _|q
  ·simp[d,hc,ad];refine cp (h1:=?g2) (sQ true [[98,97,108,108],c.name,c.pt.x,c.pt.y] s_ o_) (by simp;exact⟨rfl,rfl⟩) ?_
   case g2=>simp
   simp;rw[<-jl];have e0:gB l 1=jl c:=by rw[j];simp[gB]
   refine cf (yj (jl c) (by simp[jl,fg]) o_) [1] ?_;have E:av.wrap 1=1:=by decide
   simp[aW,sig,E];exact rd 1 d (he:=by simp[e0]) (hh:=by simp[e0,bK]) (hr2:=by simp[e0,bK])
  ·have hI:(q:Int)+1<(l.length:Int):=by omega
   have F:av.wrap ((q:Int)+1+1)=(q:Int)+1+1:=aO _ o_ o_;have I:=h (q+1);simp[d,hI,hc,ad];refine⟨o_,?_⟩;refine cp (h1:=?g2) (sQ true [[98,97,108,108],c.name,c.pt.x,c.pt.y] s_ o_) (by simp;exact⟨rfl,rfl⟩) ?_
   case g2=>simp
   simp;rw[<-jl];refine cf (sX (gB l (q+1)) (jl c) q _ rfl (by simp[jl,fg]) o_ o_) [1,4] ?_ (ak:=by simp[sig,bK]) (aG:=by simp[sig]) (hr:=by simp[bK]);simp[sig,bK,aW,ke,F];exact rd (q+2) d (he:=by simp[j]) (hh:=by simp[j]) (hr2:=s_)
 obtain rfl:i=l.length:=o_
 have C:ju l=gB l l.length:=rfl;have A:=h l.length;have n:=v l.length;rw[C];rcases o:l.length with _|q
 ·have e:gB l 0=[]:=by simp[gB]
  rw[e,kF];simp;refine cf ayV [1] ?_;simp[f]
 ·rw[o]at A n;have B:gB l (q+1)≠[]:=by
   intro e;have k:l[0]?=some (l[0]' o_):=a0 o_;rw[gB]at e;obtain⟨c,r,rfl⟩:∃c r,l=c::r:=by
    cases l with
    |nil=>simp at o
    |cons c r=>exact⟨c,r,rfl⟩
   simp[jl,fg]at e
  rw[kF];simp;generalize gB l (q+1)=T at*
  by_cases a:4096<T.length
  ·refine cf (Jr T q T.length rfl a) [1,4] ?_ (ak:=by simp[sig,bK]) (aG:=by simp[sig]) (hr:=by simp[bK]);simp[a,f]
  ·refine cf (Jq T q T.length rfl B a n) [1,4] ?_ (ak:=by simp[sig,bK]) (aG:=by simp[sig]) (hr:=by simp[bK]);simp[a,f]
def kq:List (List Nat)->Option bD
 |[w,n,x,y]=>if w=[98,97,108,108]then some ⟨n,⟨x,y⟩⟩else none
 |_=>none
def jc:List (List Nat)->List bD->Nat->Option (List bD)×Nat
 |[],out,_=>(some out,0)
 |l::ls,out,i=>match kq (dY l)with
  |some s=>jc ls (out++[s]) (i+1)
  |none=>(none,i+1)
def fo(l:List bD):az:=⟨[],0,[],l⟩
def iL(t:az)(s:List Nat):List bD×Int×Int:=
 if s=[]then([],0,0)
 else if eS s≠0 then([],0,eS s)
 else match jc (bR 10 s.dropLast) [] 0 with
  |(none,k)=>([],k,25)
  |(some l,_)=>if fW t (fo l)≠0 then([],0,fW t (fo l))else(l,0,0)
theorem xR:∀(f:List (List Nat))(out:List bD)(i:Nat),(∀s∈out,ki s)->out.length<=i->(∀l∈f,l.length<=1000000/\∀c∈l,c<256)->∀l k,jc f out i=(some l,k)->(∀s∈l,ki s)/\l.length<=i+f.length
 |[],out,i,h,j,_,l,k,e=>by
  simp[jc]at e;obtain⟨rfl,_⟩:=e;exact⟨h,j⟩
 |x::f,out,i,h,j,m,l,k,e=>by
  rw[jc]at e;obtain⟨o,p⟩:=m x s_;have g:=I5 o p
  split at e
  ·rename_i s hs;obtain⟨q1,q⟩:=xR f (out++[s]) (i+1) (by
    intro z d;rcases a5.1 d with d|d
    ·exact h z d
    ·simp at d;subst d;unfold kq at hs
     split at hs
     ·rename_i w n a b hq
      split at hs
      ·simp at hs;subst hs;rw[hq]at g;exact⟨g _ s_,g _ s_,g _ s_⟩
      ·cases hs
     ·cases hs) (by simp;omega) (fun z d=>m z (by simp[d])) l k e
   simp only[a4];exact⟨q1,o_⟩
  ·simp at e
theorem ayG(t:az)(l:List bD)(v:Nat)(d:cB t=0)(c:gF t)(hl:l.length<=1000000)(hs:∀s∈l,ki s):
 bW prog 73 [.arr .grow v 3 (l.map (AV.p∘aP))] [.p (cd t),.sl 0 v 3 0 l.length] [.arr (qo (l.map (AV.p∘aP))) v 3 (l.map (AV.p∘aP))] (.p (.int .i64 (fW t (fo l)))):=by
 have hf:[Obj.arr (qo (l.map (AV.p∘aP))) v 3 (l.map (AV.p∘aP))]=[Obj.arr .grow v 3 (l.map (AV.p∘aP))].map jn:=by simp[BR]
 rw[hf];have b:iH [.arr .grow v 3 (l.map (AV.p∘aP))]:=by
  rw[xp];exact u7 BU
 have hc:=Hx t (fo l) d ⟨hl,hs⟩ c.cl;refine aA.FA 9 hc (i_ func73).enters b ?_;have a:a6 l.length (l.map (AV.p∘aP))=l.map (AV.p∘aP):=ax s_;simp[fo,a,sU]
theorem T7(t:az)(s:List Nat)(D:gF t)(E:cB t=0)(hs:s.length<=100000)(A:∀c∈s,c<256):aA prog 24 [cd t,.str s] (.aE [.seq ((iL t s).1.map aP),.int .i64 (iL t s).2.1,.int .i64 (iL t s).2.2]):=by
 have hl:=UO s o_;refine aM nf (i_ func24) mix (by simp[f24]) ?_
 by_cases b:s=[]
 ·have e:iL t s=([],0,0):=by rw[iL,if_pos b]
  rw[e,b];simp[f24,ad]
 have B:¬(s.length:Int)=0:=by
  have:=b1.2 b;omega
 simp[f24,b,B,ad];refine c1_ hl ?_
 by_cases d:eS s=0
 case neg=>
  have e:iL t s=([],0,eS s):=by rw[iL,if_neg b,if_pos d]
  rw[e];simp[d,ad]
 simp[d,ad]
 have q:iL t s=match jc (bR 10 s.dropLast) [] 0 with
   |(none,k)=>([],(k:Int),25)
   |(some l,_)=>if fW t (fo l)≠0 then([],0,fW t (fo l))else(l,0,0):=by rw[iL,if_neg b,if_neg (by simp[d])]
 have o:=mT 10 s.dropLast;have I:(bR 10 s.dropLast).length<=100001:=by simp at o;omega
 have m:∀l∈bR 10 s.dropLast,l.length<=1000000/\∀c∈l,c<256:=fun l h=>by
  have:=nR h;exact⟨by simp at this;omega,fun c hc=>A c (ay _ (sT h c hc))⟩
 have C:=xR (bR 10 s.dropLast) [] 0 s_ s_ m;rw[q];clear q o hl;generalize bR 10 s.dropLast=ls at*
 refine lp (α:=Nat×List bD) (fun(i,out)=>⟨[(10,.p (.int .i64 i)),(9,.sl 1 out.length 3 0 out.length),(7,.p (.seq (ls.map .str))),(2,.ptr 0 [])],
  [.box false (.p (cd t)),.arr .grow out.length 3 (out.map (AV.p∘aP))]⟩)
  (fun(i,out)=>i<=ls.length/\out.length<=i/\jc ls [] 0=jc (ls.drop i) out i) (fun(i,_)=>ls.length-i) (0,[]) s_ ?_
 rintro⟨i,out⟩ ⟨u,v,a⟩;dsimp only at u v a⊢;have j:=bY (i:=i) o_
 by_cases hi:i<ls.length
 ·rw[bk hi,jc]at a;obtain⟨G,H⟩:=m _ (bb hi);have hc:=anY ls[i] o_;simp[hi,ad];refine c1_ hc ?_;generalize dY ls[i]=ws at*;have bad:kq ws=none->jc ls [] 0=(none,i+1):=fun e=>by rw[e]at a;exact a
  by_cases g:ws.length=4
  ·obtain⟨w,n,x,y,rfl⟩:∃w n x y,ws=[w,n,x,y]:=by
    match ws,g with
    |[w,n,x,y],_=>exact⟨w,n,x,y,rfl⟩
   by_cases f:w=[98,97,108,108]
   ·have e:kq [w,n,x,y]=some ⟨n,⟨x,y⟩⟩:=by rw[kq,if_pos f]
    rw[e]at a;dsimp only at a;subst f;simp[j,ad];refine⟨by simp only[cM];omega,by repeat' first|rfl|apply am,?_⟩;exact rd (i+1,out++[⟨n,⟨x,y⟩⟩]) ⟨hi,by simp;omega,a⟩ (h1:=by dsimp only;omega) (hh:=by simp[aP,fE]) (hr2:=s_)
   ·rw[bad (by rw[kq,if_neg f])];simp[f,j,ad]
  ·have z:¬(ws.length:Int)=4:=by omega
   rw[bad (by
    unfold kq
    split
    ·simp at g
    ·rfl)]
   simp[g,z,j,ad]
 ·obtain rfl:i=ls.length:=by omega
  rw[bv,jc]at a;rw[a];obtain⟨k1,k2⟩:=C _ _ a;dsimp only;simp[ad];refine cf (ayG t out out.length E D o_ k1) [1] ?_ (ak:=by simp[sig,fx]) (aG:=by simp[sig]) (hr:=s_);have F:a6 out.length (out.map (AV.p∘aP))=out.map (AV.p∘aP):=ax s_
  by_cases r:fW t (fo out)=0
  ·simp[aW,sig,r,ad,fx,F,sU]
  ·simp[aW,sig,r,ad,fx]
def xD:PV:=.st 35 [.aK,.int .i64 0,.aK,.aK]
def uI(l:List bD):Heap:=[.box false (.st 131 [.p xD,.sl 1 l.length 3 0 l.length,.p (.int .i64 0)]),.arr .grow l.length 3 (l.map (AV.p∘aP))]
@[simp] theorem aPC:aL xD=.agg 35:=rfl
theorem ayk(l:List bD)(n x y:List Nat)(hc:l.length<=1000000):
 bW prog 166 (uI l) [.ptr 0 [],.p (.seq [.str n,.str x,.str y])] (uI (l++[⟨n,⟨x,y⟩⟩])) (.p (.bool true)):=by
 refine dU nf (i_ func166) mix (by simp[f166,uI]) ?_;simp[f166,uI,ad];exact⟨by simp only[cM];omega,by repeat' first|rfl|apply am,bE.og (by simp[aP,fE]) s_ (by simp[aP,fE]) s_ s_⟩
def kf:List PV:=[.str [98,97,108,108]]
def jm(b:Nat):List AV:=[.st 229 [.p (.int .i64 0),.p (.int .i64 3),.func 166 [.ptr b []] []]]
theorem T4:bW prog 72 [.box false (.p jr)] [.ptr 0 []] [.box false (.p jr),.cQ kf (jm 0)] (.map 1):=by
 refine dU nf (i_ func72) mix (by simp[f72]) ?_;simp[f72,gU,kf,jm]
def jK:List (List Nat)->List bD->Nat->List bD×Nat
 |[],out,_=>(out,0)
 |l::ls,out,i=>match kq (dY l)with
  |some s=>jK ls (out++[s]) (i+1)
  |none=>(out,i+1)
theorem SC:∀(a:List (List Nat))(out:List bD)(i:Nat),match jc a out i with
  |(none,k)=>(jK a out i).2=k/\0<k
  |(some l,_)=>(jK a out i).2=0/\(jK a out i).1=l
 |[],out,i=>by simp[jc,jK]
 |l::a,out,i=>by
  rw[jc,jK];rcases kq (dY l)with _|s
  ·simp
  ·exact SC a (out++[s]) (i+1)
def iT(l:List bD):Heap:=
 [.box false (.st 131 [.p xD,.sl 2 l.length 3 0 l.length,.p (.int .i64 0)]),.cQ kf (jm 0),.arr .grow l.length 3 (l.map (AV.p∘aP))]
theorem azj(s:List Nat)(hs:s.length<=100000)(z:∀c∈s,c<256)(d:List (List Nat))(k:d=bR 10 (jb s)):
 bW prog 59 (iT []) [.ptr 0 [],.p (.str s),.map 1,.p (.bool false)] (iT (jK d [] 0).1) (.p (.int .i64 (jK d [] 0).2)):=by
 have D:=HX s o_ z;have uC:(jb s).length<=s.length:=by rw[jb];split<;>simp
 have o:=yf (jb s) 10 o_;have B:=mT 10 (jb s);have G:d.length<=100001:=by rw[k];omega
 have A:∀l∈d,l.length<=100000:=fun l h=>by
  rw[k]at h;have:=nR h;omega
 rw[<-k]at o;clear k B;refine dU nf (i_ func59) mix (by simp[f59,iT,jm]) ?_;simp[f59];refine c2_ D ?_;simp;refine c2_ o ?_;simp;refine lp (α:=Nat×List bD) (fun(i,out)=>⟨[(18,.p (.int .i64 i)),(17,.p (.int .i64 d.length)),(16,.p (.seq (d.map .str))),(3,.p (.bool false)),(2,.map 1),(0,.ptr 0 [])],iT out⟩)
  (fun(i,out)=>i<=d.length/\out.length<=i/\jK d [] 0=jK (d.drop i) out i) (fun(i,_)=>d.length-i) (0,[]) s_ ?_ (hn:=by simp[iT]) (hh:=by simp[iT]) (hr:=by simp[iT,jm]) (hr2:=by simp[iT,jm])
 rintro⟨i,out⟩ ⟨v,x,f⟩;dsimp only at v x f⊢;have m:=bY (i:=i) o_
 by_cases hi:i<d.length
 case neg=>
  obtain rfl:i=d.length:=o_
  rw[bv,jK]at f;rw[f];simp[iT]
 rw[bk hi,jK]at f;have F:=A _ (bb hi);have hc:=yf d[i] 32 o_;have C:=vf 32 d[i];have H:=mT 32 d[i];have y:=Hg (bR 32 d[i]) o_;have E:dY d[i]=if dP (bR 32 d[i])=true then bR 32 d[i]else[]:=rfl
 simp[hi,iT];refine c2_ hc ?_;generalize bR 32 d[i]=ws at*;rw[E]at f;rcases ws with _|⟨w,r⟩
 ·exact(C rfl).elim
 have q:av.wrap 4=4:=by decide
 have bad:(dP (w::r)=true->kq (w::r)=none)->jK d [] 0=(out,i+1):=fun e=>by
  by_cases c:dP (w::r)=true
  ·rw[if_pos c,e c]at f;exact f
  ·rw[if_neg c]at f;exact f
 by_cases n:w=[98,97,108,108]
 ·subst n;simp[kf,jm,gU,ad];refine e2_ y ?_
  by_cases g:dP ([98,97,108,108]::r)=true
  case neg=>
   rw[bad fun c=>absurd c g];simp[g,m,ad]
   first|exact bE.og s_ s_ s_ s_ s_|exact⟨by repeat' first|rfl|apply am,bE.og s_ s_ s_ s_ s_⟩
  by_cases j:r.length=3
  case neg=>
   have t:¬(r.length:Int)+1=4:=o_
   rw[bad fun _=>by
    unfold kq
    split
    ·rename_i h;simp at h;rw[h.2]at j;simp at j
    ·rfl]
   simp[g,t,j,q,m,ad]
   first|exact bE.og s_ s_ s_ s_ s_|exact⟨by repeat' first|rfl|apply am,bE.og s_ s_ s_ s_ s_⟩
  obtain⟨a,b,c,rfl⟩:∃a b c,r=[a,b,c]:=by
   match r,j with
   |[a,b,c],_=>exact⟨a,b,c,rfl⟩
  rw[if_pos g,kq,if_pos rfl]at f;dsimp only at f;have gk:=ayk out a b c o_;rw[uI,uI]at gk;simp[g,q,ad];refine ef gk [0,2] ?_ (ak:=by simp[sig,fx]) (aG:=by simp[sig]) (hr:=s_);simp[sig,fx,ke,aW,m,ad];exact⟨by rfl,rd (i+1,out++[⟨a,⟨b,c⟩⟩]) ⟨hi,by simp;omega,f⟩ (h1:=by dsimp only;omega) (hn:=by simp[iT,kf,jm]) (hh:=by simp[iT,kf,jm,aP,fE]) (hr:=by simp[iT,kf,jm]) (hr2:=by simp[iT,kf,jm])⟩
 have u:(w==[98,97,108,108])=false:=by simpa using n
 rw[bad fun _=>by
  unfold kq
  split
  ·rename_i h;simp at h;rw[if_neg (by rw[<-h.1];exact n)]
  ·rfl]
 simp[kf,jm,gU,u,m,ad]
 first|exact bE.og s_ s_ s_ s_ s_|exact⟨by repeat' first|rfl|apply am,bE.og s_ s_ s_ s_ s_⟩
theorem UD(s:List Nat)(hs:s.length<=100000)(d:∀c∈s,c<256)(a:List (List Nat))(e:a=bR 10 (jb s)):
 bW prog 59 [.box false (.p jr),.cQ kf (jm 0)] [.ptr 0 [],.p (.str s),.map 1,.p (.bool false)] (iT (jK a [] 0).1) (.p (.int .i64 (jK a [] 0).2)):=by
 refine bW.I8 (H1:=iT []) ?_ ?_ (azj s hs d a e)
 ·refine bE.og s_ s_ (by simp[iT,jr,xD,kf,jm]) s_ (by simp[iT,xD,kf,jm])
 ·intro b o h;rcases b with _|_|b
  ·simp at h;exact .inr ⟨_,_,h.symm,rfl⟩
  ·left;simpa[iT]using h
  ·simp at h
def iU(t:az)(s:List Nat):List bD×Int×Int:=if cB t≠0 then([],0,cB t)else iL t s
theorem Uw(t:az)(s:List Nat):bI [cB t,ba (decide (4096<s.length)) 26,ba (decide (s≠[])&&!decide (s.getLast?=some 10)) 28]=if cB t≠0 then cB t else if s=[]then 0 else eS s:=by
 by_cases a:cB t=0
 ·by_cases hs:s=[]
  ·subst hs;simp[bI,ba,a]
  ·by_cases h1:4096<s.length
   ·simp[bI,ba,eS,a,hs,h1]
   ·by_cases b:s.getLast?=some 10
    ·simp[bI,ba,eS,a,hs,h1,b]
    ·simp[bI,ba,eS,a,hs,h1,b]
 ·simp[bI,a]
theorem Si{t:az}{l:List bD}(h:cB t=0):iM t (fo l)=fW t (fo l):=by rw[iM,if_neg (by simp[h])]
theorem ayH(t:az)(l:List bD)(v:Nat)(c:gF t)(hl:l.length<=1000000)(hs:∀s∈l,ki s):
 bW prog 71 [.arr .grow v 3 (l.map (AV.p∘aP))] [.p (cz t),.sl 0 v 3 0 l.length] [.arr (qo (l.map (AV.p∘aP))) v 3 (l.map (AV.p∘aP))] (.p (.int .i64 (iM t (fo l)))):=by
 have hf:[Obj.arr (qo (l.map (AV.p∘aP))) v 3 (l.map (AV.p∘aP))]=[Obj.arr .grow v 3 (l.map (AV.p∘aP))].map jn:=by simp[BR]
 rw[hf];have b:iH [.arr .grow v 3 (l.map (AV.p∘aP))]:=by
  rw[xp];exact u7 BU
 have hc:=Br t (fo l) c ⟨hl,hs⟩;refine aA.FA 9 hc (i_ func71).enters b ?_;have a:a6 l.length (l.map (AV.p∘aP))=l.map (AV.p∘aP):=ax s_;simp[fo,a,sU]
theorem Hw(t:az)(s:List Nat)(m:gF t)(hs:s.length<=100000)(j:∀c∈s,c<256):aA prog 21 [cz t,.str s] (.aE [.seq ((iU t s).1.map aP),.int .i64 (iU t s).2.1,.int .i64 (iU t s).2.2]):=by
 have q:=xJ t m;have hf:=nN [cB t,ba (decide (4096<s.length)) 26,ba (decide (s≠[])&&!decide (s.getLast?=some 10)) 28] s_;rw[Uw]at hf;have o:=gQ (decide (4096<s.length)) 26;have g:=gQ (decide (s≠[])&&!decide (s.getLast?=some 10)) 28;have r:=HG s o_ j
 by_cases b:s=[]
 ·subst b;have u:=Br t (fo []) m ⟨by simp[fo],by simp[fo]⟩;refine aM nf (i_ func21) mix (by simp[f21]) ?_;simp[f21,ad];refine c1_ q ?_;simp;refine c2_ o ?_ (h1:=s_);simp;refine c2_ g ?_ (h1:=s_);simp;refine cp (h1:=?g1) hf (by simp;exact⟨rfl,rfl⟩) ?_
  case g1=>simp
  by_cases a:cB t=0
  case neg=>
   have e:iU t []=([],0,cB t):=by rw[iU,if_pos a]
   rw[e];simp[a,ad]
  have e:iU t []=([],0,0):=by rw[iU,if_neg (by simp[a]),iL,if_pos rfl]
  have e2:iM t (fo [])=0:=by rw[Si a];simp[fW,fo,jJ,bI]
  rw[e];rw[e2]at u;simp[a,ad];refine e2_ u ?_ (h2:=by simp[fo]);simp[ad]
 have e2:(decide (s≠[])&&!decide (s.getLast?=some 10))=!decide (s.getLast?=some 10):=by simp[b]
 rw[e2]at g hf;refine aM nf (i_ func21) mix (by simp[f21]) ?_;simp[f21,ad];refine c1_ q ?_;simp;refine c2_ o ?_ (h1:=by simp;omega);simp[b];refine c2_ r ?_;simp[b];refine c2_ g ?_;simp[b];refine cp (h1:=?g1) hf (by simp;exact⟨rfl,rfl⟩) ?_
 case g1=>simp
 by_cases a:cB t=0
 case neg=>
  have e:iU t s=([],0,cB t):=by rw[iU,if_pos a]
  rw[e];simp[a,ad]
 by_cases d:eS s=0
 case neg=>
  have e:iU t s=([],0,eS s):=by rw[iU,if_neg (by simp[a]),iL,if_neg b,if_pos d]
  rw[e];simp[a,b,d,ad]
 have x:iU t s=match jc (bR 10 s.dropLast) [] 0 with
   |(none,k)=>([],(k:Int),25)
   |(some l,_)=>if fW t (fo l)≠0 then([],0,fW t (fo l))else(l,0,0):=by rw[iU,if_neg (by simp[a]),iL,if_neg b,if_neg (by simp[d])]<;>rfl
 have w:jb s=s.dropLast:=by
  rw[jb,if_pos];rw[eS]at d
  split at d
  ·cases d
  ·split at d
   ·assumption
   ·cases d
 have v:=mT 10 s.dropLast;have hl:∀l∈bR 10 s.dropLast,l.length<=1000000/\∀c∈l,c<256:=fun l h=>by
  have:=nR h;exact⟨by simp at this;omega,fun c hc=>j c (ay _ (sT h c hc))⟩
 have gr:=UD s hs j (bR 10 s.dropLast) (by rw[w]);have f:=SC (bR 10 s.dropLast) [] 0;have D:=xR (bR 10 s.dropLast) [] 0 s_ s_ hl;have E:(bR 10 s.dropLast).length<=100001:=by simp at v;omega
 rw[x];clear x hf o g r hl v w;generalize bR 10 s.dropLast=ls at*;generalize jK ls [] 0=A at*;generalize jc ls [] 0=R at*;obtain⟨out,n⟩:=A;obtain⟨z,k⟩:=R;have C:=T4;simp[a,b,d,ad];refine cf C [2] ?_ (ak:=by simp[sig,jr]) (aG:=by simp[sig]) (hr:=by simp[jr]);simp[sig,aW,jr,kf,jm];rw[iT]at gr;refine cf gr [2,3] ?_ (ak:=by simp[sig,jr,kf,jm]) (aG:=by simp[sig]) (hr:=by simp[jr,kf,jm]);rcases z with _|F
 ·dsimp only at f;obtain⟨i,a2⟩:=f;subst i;have B:(0:Int)<(n:Int):=by omega
  simp[sig,aW,fx,a2,B,ad]
 ·dsimp only at f;obtain⟨i,a2⟩:=f;subst i a2;obtain⟨k1,k2⟩:=D _ _ rfl;have gk:=ayH t out out.length m o_ k1;rw[Si a]at gk;have q1:a6 out.length (out.map (AV.p∘aP))=out.map (AV.p∘aP):=ax s_;simp[sig,aW,fx,b,ad];refine ef gk [4] ?_ (ak:=by simp[sig,fx]) (aG:=by simp[sig]) (hr:=s_)
  by_cases y:fW t (fo out)=0
  ·simp[aW,sig,y,ad,fx,q1,sU]
  ·simp[aW,sig,y,ad,fx]
def sG(s:List Nat):Bool:=decide (s.length<=1500)||(decide (4096<s.length)&&decide (s.length<=4099))
theorem T5(s:List Nat):aA prog 8 [.str s] (.bool (sG s)):=by
 refine aM nf (i_ func8) mix (by simp[f8]) ?_
 by_cases b:s.length<=1500
 ·have a:(s.length:Int)<=1500:=by omega
  simp[f8,sG,b,a]
 ·have a:¬(s.length:Int)<=1500:=by omega
  by_cases d:4096<s.length
  ·have c:(4096:Int)<(s.length:Int):=by omega
   by_cases f:s.length<=4099
   ·have e:(s.length:Int)<=4099:=by omega
    simp[f8,sG,b,a,d,c,f,e]
   ·have e:¬(s.length:Int)<=4099:=by omega
    simp[f8,sG,b,a,d,c,f,e]
  ·have c:¬(4096:Int)<(s.length:Int):=by omega
   simp[f8,sG,b,a,d,c]
theorem Bz(b:az)(hl:b.aj.length<=1000000):aA prog 26 [.seq (b.aj.map aP)] (.seq (b.aj.map aP)):=by
 have f:(1000000:Nat)<cM:=by decide
 have g:av.wrap 1=1:=by decide
 refine aM nf (i_ func26) mix (by simp[f26]) ?_;simp[f26,ad];refine lp (α:=Nat) (fun i=>⟨[(8,.p (.int .i64 i)),(7,.p (.int .i64 b.aj.length)),(6,.p (.seq (b.aj.map aP))),(3,.sl 0 i 3 0 i)],[.arr .grow i 3 ((b.aj.map (AV.p∘aP)).take i)]⟩) (fun i=>i<=b.aj.length) (fun i=>b.aj.length-i) 0 s_ ?_;rintro i i1
 by_cases hi:i<b.aj.length
 ·have a:=az.fH hi;have e:=bY (i:=i) o_;have d:(b.aj.map (AV.p∘aP)).take (i+1)=(b.aj.map (AV.p∘aP)).take i++[.p (aP (b.sp i))]:=by
   rw[List.take_add_one,List.getElem?_map,a];rfl
  have c:min i b.aj.length=i:=o_
  simp[hi,a,e,c,ad];exact⟨o_,rd (i+1) hi (hh:=by simp[d]) (hr2:=by simp[iJ])⟩
 ·have:i=b.aj.length:=by omega
  subst this;simp[ad]
def aLn(n i:Nat):List (Nat×Nat):=(cc (n-(i+1))).map (fun d=>(i,i+1+d))
def pre(n i:Nat):List (Nat×Nat):=(cc i).flatMap (aLn n)
def ePr(p:Nat×Nat):PV:=.st 106 [.int .i64 p.1,.int .i64 p.2]
@[simp] theorem aPm(p:Nat×Nat):aL (ePr p)=.agg 106:=rfl
theorem Uo{t:az}{s:List Nat}(hs:s.length<=100000)(a:∀c∈s,c<256):(iL t s).1.length<=1000000:=by
 rw[iL]
 split
 ·simp
 split
 ·simp
 have b:=mT 10 s.dropLast;have hl:∀l∈bR 10 s.dropLast,l.length<=1000000/\∀c∈l,c<256:=fun l h=>by
  have:=nR h;exact⟨by simp at this;omega,fun c hc=>a c (ay _ (sT h c hc))⟩
 split
 ·simp
 ·rename_i l k e;have:=(xR _ [] 0 s_ s_ hl l k e).2
  split
  ·simp
  ·simp at b;dsimp only;omega
theorem Uy(j:aA prog 9 [] (.bool true))(t b:az)(s:List Nat)(d:gF t)(o:nT b)(hc:∀c∈s,c<256):aA prog 4 [cd t,.seq (b.aj.map aP),.str s] (.bool true):=by
 have s0:=GF t d.cl d.pl d.sl;have i:=Hl b 8 o.sl o_;have k:=T5 s;rcases v:mS t with _|_
 ·rw[v]at s0;refine aM nf (i_ func4) mix (by simp[f4]) ?_;simp[f4,ad];refine c1_ s0 ?_;simp[ad];refine c0_ j ?_;simp[ad]
 rw[v]at s0;rcases w:qy 8 b.aj with _|_
 ·rw[w]at i;refine aM nf (i_ func4) mix (by simp[f4]) ?_;simp[f4,ad];refine c1_ s0 ?_;simp[ad];refine c2_ i ?_;simp[ad];refine c0_ j ?_;simp[ad]
 rw[w]at i;rcases p:sG s with _|_
 ·rw[p]at k;refine aM nf (i_ func4) mix (by simp[f4]) ?_;simp[f4,ad];refine c1_ s0 ?_;simp[ad];refine c2_ i ?_;simp[ad];refine c1_ k ?_;simp[ad];refine c0_ j ?_;simp[ad]
 rw[p]at k;have hs:s.length<=100000:=by
  simp only[sG,ap,ao,decide_eq_true_eq]at p;omega
 have q0:=GK t d.cl d.pl d.sl;have q1:=Ht b o.sl;have g:=Hv t b d o;have h:=Hw t s d hs hc;have q4:=Hu t b d o;have q:=Gi t d;have x:=Uo (t:=t) hs hc
 by_cases a:cB t=0
 case neg=>
  have u:iM t b=cB t:=by rw[iM,if_pos a]
  have e:iU t s=([],0,cB t):=by rw[iU,if_pos a]
  rw[u,if_pos a,if_pos a]at g;rw[e]at h;rw[u]at q4;dsimp only at h;have m:=Bz (fo []) (by simp[fo]);have n:=BE [] s_;refine aM nf (i_ func4) mix (by simp[f4]) ?_;simp[f4,ad];refine c1_ s0 ?_;simp[ad];refine c2_ i ?_;simp[ad];refine c1_ k ?_;simp[ad];refine c1_ q0 ?_;simp[ad];refine c1_ q1 ?_;simp[ad];refine c2_ g ?_;simp[ad];refine c1_ q0 ?_;simp[ad];refine c2_ h ?_;simp[ad];refine c2_ q4 ?_;simp[a,ad];refine c1_ q ?_;simp[a,ad];refine c1_ m ?_ (h1:=by simp[fo]);simp[fo,ad];refine c2_ n ?_;simp[ad];refine c0_ j ?_;simp[ad]
 have r:=T7 t s d a hs hc;have e:iU t s=iL t s:=by rw[iU,if_neg (by simp[a])]
 rw[e]at h;have m:=Bz (fo (iL t s).1) x;have n:=BE (iL t s).1 x;generalize iL t s=R at*;obtain⟨l,A,z⟩:=R;simp only[fo]at h m n r
 by_cases f:iM t b=0
 ·have y:=T6 b.aj (yk (yd.1 f).2);rw[if_neg (by simp[f]),if_neg (by simp[f])]at g;generalize kF (ju b.aj)=X at*;obtain⟨B,C⟩:=X;dsimp only at g y;refine aM nf (i_ func4) mix (by simp[f4]) ?_;simp[f4,ad];refine c1_ s0 ?_;simp[ad];refine c2_ i ?_;simp[ad];refine c1_ k ?_;simp[ad];refine c1_ q0 ?_;simp[ad];refine c1_ q1 ?_;simp[ad];refine c2_ g ?_;simp[ad];refine c1_ q0 ?_;simp[ad];refine c2_ h ?_;simp[ad];refine c2_ q4 ?_;simp[f,ad];refine c1_ y ?_;simp[ad];refine c1_ q ?_;simp[a,ad];refine c2_ r ?_;simp[a,ad];refine c1_ m ?_;simp[ad];refine c2_ n ?_;simp[ad];refine c0_ j ?_;simp[ad]
 ·rw[if_pos f,if_pos f]at g;refine aM nf (i_ func4) mix (by simp[f4]) ?_;simp[f4,ad];refine c1_ s0 ?_;simp[ad];refine c2_ i ?_;simp[ad];refine c1_ k ?_;simp[ad];refine c1_ q0 ?_;simp[ad];refine c1_ q1 ?_;simp[ad];refine c2_ g ?_;simp[ad];refine c1_ q0 ?_;simp[ad];refine c2_ h ?_;simp[ad];refine c2_ q4 ?_;simp[f,ad];refine c1_ q ?_;simp[a,ad];refine c2_ r ?_;simp[a,ad];refine c1_ m ?_;simp[ad];refine c2_ n ?_;simp[ad];refine c0_ j ?_;simp[ad]
def gv(a:List (List Nat)):List Nat:=dE [32] a
def lM(a:List (List Nat)):Prop:=a≠[]/\∀w∈a,w≠[]/\32∉w/\10∉w
theorem aKs{a:List (List Nat)}(h:lM a):dP a=true:=by
 rw[dP,bo];intro w b;exact decide_eq_true (h.2 w b).1
theorem u4{a:List (List Nat)}(h:lM a):dY (gv a)=a:=by
 have e:bR 32 (gv a)=a:=Bv h.1 fun s hs=>(h.2 s hs).2.1;rw[dY,e,if_pos (aKs h)]
theorem H5{c:Nat}(hc:c≠32):∀{l:List (List Nat)},(∀w∈l,c∉w)->c∉dE [32] l
 |[],_=>by simp[dE]
 |[x],h=>by rw[dE];exact h x s_
 |x::y::l,h=>by
  have b:=H5 hc (l:=y::l) fun w a=>h w (by simp[a]);rw[dE]
  ·simp only[a5,not_or];exact⟨⟨h x s_,by simpa using hc⟩,b⟩
  ·intro e;cases e
theorem vk{a:List (List Nat)}(h:lM a):10∉gv a:=H5 o_ fun w b=>(h.2 w b).2.2
def fQ(ls:List (List Nat)):List Nat:=ls.flatMap (·++[10])
theorem Bu:∀{ls:List (List Nat)},ls≠[]->fQ ls=dE [10] ls++[10]
 |[],h=>(h rfl).elim
 |[x],_=>by simp[fQ,dE]
 |x::y::l,_=>by
  have a:=Bu (ls:=y::l) s_;rw[dE]
  ·rw[fQ,List.flatMap_cons];rw[fQ]at a;rw[a];simp
  ·intro e;cases e
theorem xQ{a:List (List Nat)}(b:a≠[])(h:∀l∈a,10∉l):(fQ a).getLast?=some 10/\bR 10 (fQ a).dropLast=a:=by
 rw[Bu b];refine⟨s_,?_⟩;rw[List.dropLast_concat];exact Bv b h
theorem xU(c:Nat):∀(s b:List Nat),dE [c] (dZ c b s)=b++s
 |[],b=>by simp[dZ,dE]
 |x::s,b=>by
  rw[dZ]
  split
  ·rename_i h;subst h;have f:dZ x [] s≠[]:=vf x s;obtain⟨a,r,e⟩:∃a r,dZ x [] s=a::r:=by
    cases he:dZ x [] s with
    |nil=>exact(f he).elim
    |cons a r=>exact⟨a,r,rfl⟩
   have d:=xU x s [];rw[e]at d⊢;rw[dE]
   ·rw[d];simp
   ·intro h;cases h
  ·rw[xU c s];simp
theorem aLZ{s:List Nat}(h:s.getLast?=some 10):fQ (bR 10 s.dropLast)=s:=by
 rw[Bu (vf _ _),bR,xU];have a:s≠[]:=by intro e;subst e;simp at h
 have:=List.dropLast_concat_getLast a;rw[List.getLast?_eq_some_getLast a]at h;injection h with h
 rw[h]at this;simpa using this
theorem Ib{l:List Nat}(h:dY l≠[]):gv (dY l)=l:=by
 rw[dY]at h⊢
 split at h
 ·rename_i c;rw[if_pos c,gv,bR,xU];simp
 ·exact(h rfl).elim
def oU(n:Int):List (List Nat):=[[114,97,100,105,117,115],bn n]
def mF(p:dm):List (List Nat):=[[99,111,114,110,101,114],bn p.x,bn p.y]
def mK(p:dy):List (List Nat):=[[112,111,99,107,101,116],p.name,bn p.dh,p.a,p.b]
def mM(s:bD):List (List Nat):=[[115,112,111,116],s.name,s.pt.x,s.pt.y]
def nC(s:bD):List (List Nat):=[[98,97,108,108],s.name,s.pt.x,s.pt.y]
def ia(t:az):List (List Nat):=gv (oU t.aX)::(t.cs.map fun p=>gv (mF p))++((t.aF.map fun p=>gv (mK p))++t.aj.map fun p=>gv (mM p))
theorem xV{α:Type}(f:α->List Nat)(l:List α):fQ (l.map f)=l.flatMap fun x=>f x++[10]:=by
 rw[fQ,List.flatMap_map]
theorem BD(t:az):jf t=fQ (ia t):=by
 have e1:fQ (t.cs.map fun p=>gv (mF p))=t.cs.flatMap lW:=xV _ _;have e2:fQ (t.aF.map fun p=>gv (mK p))=t.aF.flatMap lD:=xV _ _;have e3:fQ (t.aj.map fun p=>gv (mM p))=t.aj.flatMap lG:=xV _ _;have e4:∀a b:List (List Nat),fQ (a++b)=fQ a++fQ b:=fun a b=>by simp[fQ]
 have e5:∀(x:List Nat)(a:List (List Nat)),fQ (x::a)=x++[10]++fQ a:=fun x a=>by simp[fQ]
 have c:sA t.aX=gv (oU t.aX)++[10]:=rfl;rw[jf,ek,a3,a3,a3,ia,a1,e5,e4,e4,e1,e2,e3,<-c]
theorem xS(n:Int):bn n≠[]/\32∉bn n/\10∉bn n:=by
 refine⟨?_,fun h=>?_,fun h=>?_⟩
 ·rw[bn]
  split
  ·simp
  ·intro e;have:=uW n.natAbs;rw[e]at this;simp[dx]at this
 ·rcases BI h with h|h<;>omega
 ·rcases BI h with h|h<;>omega
theorem Hy:∀(s:List Nat)(i:Nat),lA i s=true->∀c∈s,48<=c
 |[],_,_,c,hc=>by simp at hc
 |x::s,i,h,c,hc=>by
  rw[lA,ao]at h;rcases aT.1 hc with rfl|hc
  ·have a:=h.1;simp only[isLet,jt,ap,ao,decide_eq_true_eq]at a;omega
  ·exact Hy s (i+1) h.2 c hc
theorem BB{s:List Nat}(h:isName s=true):s≠[]/\32∉s/\10∉s:=by
 simp only[isName,ao,decide_eq_true_eq]at h;have a:=Hy s 0 h.2;refine⟨by intro e;rw[e]at h;simp at h,fun hc=>?_,fun hc=>?_⟩
 ·have:=a _ hc;omega
 ·have:=a _ hc;omega
theorem UK{c:Nat}{s:List Nat}{x:Nat}(h:x∈s):x∈(bP c s).1\/x=c\/x∈(bP c s).2.1:=by
 rcases mv c s with⟨_,e⟩|⟨_,e,_⟩
 ·rw[e]at h;rcases a5.1 h with h|h
  ·exact .inl h
  ·rcases aT.1 h with h|h
   ·exact .inr (.inl h)
   ·exact .inr (.inr h)
 ·rw[e];exact .inl h
theorem sS{s:List Nat}(h:bM s=0):s≠[]/\32∉s/\10∉s:=by
 obtain⟨b,_,_,f⟩:=Ex h;have key:∀x∈s,x=45\/x=47\/(48<=x/\x<=57):=by
  intro x hx;have a:x=45\/x∈bS s:=by
   rw[bS]
   split
   ·rename_i d;have e:=yc d;rw[e]at hx;rcases aT.1 hx with hx|hx
    ·exact .inl hx
    ·right;rw[bS,if_pos d]at hx;exact hx
   ·exact .inr hx
  rcases a with a|a
  ·exact .inl a
  ·rcases UK (c:=47) a with hc|hc|hc
   ·have:=jk b;rw[bo]at this;exact .inr (.inr (BL (this x hc)))
   ·exact .inr (.inl hc)
   ·right;right
    by_cases hf:eh s=true
    ·have g:=f hf;have:=jk g;rw[bo]at this;exact BL (this x hc)
    ·exfalso;rcases mv 47 (bS s)with⟨e,_⟩|⟨_,_,e⟩
     ·exact hf e
     ·rw[e]at hc;cases hc
 refine⟨?_,fun hc=>?_,fun hc=>?_⟩
 ·intro e;have:bF s=[]:=by rw[e];rfl
  rw[this]at b;simp[dx]at b
 ·rcases key _ hc with h|h|h<;>omega
 ·rcases key _ hc with h|h|h<;>omega
theorem ye{n:Int}(h:n.natAbs<1000000000):cr (bn n)=(n,true):=by
 have hs:=sP (n:=n) (k:=9) o_ h;have b:(bS (bn n)).length<=9:=by
  rw[bS]
  split
  ·rename_i a;have:(bn n).tail.length+1<=(bn n).length:=by
    rw[yc a];simp
   omega
  ·rename_i a;rw[bn]at a hs⊢
   split at a
   ·exact absurd (by simp[bQ]) a
   ·rename_i c;rw[if_neg c];exact BA o_ h
 exact Ig rfl b
theorem Ia{t:az}(h:uO t):lM (oU t.aX)/\(∀p∈t.cs,lM (mF p))/\(∀p∈t.aF,lM (mK p))/\(∀s∈t.aj,lM (mM s)):=by
 refine⟨⟨by simp[oU],?_⟩,fun p e=>⟨by simp[mF],?_⟩,fun p e=>⟨by simp[mK],?_⟩,fun s hs=>⟨by simp[mM],?_⟩⟩
 ·intro w a;simp only[oU,aT,a9,or_false]at a;rcases a with rfl|rfl
  ·decide
  ·exact xS _
 ·intro w a;simp only[mF,aT,a9,or_false]at a;rcases a with rfl|rfl|rfl
  ·decide
  ·exact xS _
  ·exact xS _
 ·obtain⟨b,c,d,f,g⟩:=h.pk p e;intro w a;simp only[mK,aT,a9,or_false]at a;rcases a with rfl|rfl|rfl|rfl|rfl
  ·decide
  ·exact BB b
  ·exact xS _
  ·exact sS f
  ·exact sS g
 ·obtain⟨b,c,d⟩:=h.sp s hs;intro w a;simp only[mM,aT,a9,or_false]at a;rcases a with rfl|rfl|rfl|rfl
  ·decide
  ·exact BB b
  ·exact sS c
  ·exact sS d
theorem SH:∀(l:List dm)(a:List (List Nat))(t:az)(i:Nat),(∀p∈l,lM (mF p)/\fe p)->ff (l.map (fun p=>gv (mF p))++a) t 1 i=ff a {t with cs:=t.cs++l} 1 (i+l.length)
 |[],a,t,i,_=>by simp
 |p::l,a,t,i,h=>by
  obtain⟨f,b⟩:=h p s_;have c:=ye (n:=p.x) (by have:=b.1;have:=b.2.1;omega);have d:=ye (n:=p.y) (by have:=b.2.2.1;have:=b.2.2.2;omega);rw[be,a1,ff,u4 f];have e:dK t 1 (mF p)=({t with cs:=t.cs++[p]},1,true):=by
   unfold dK;simp[mF,c,d]
  rw[e,if_pos rfl];dsimp only;rw[SH l a _ (i+1) fun q hq=>h q (by simp[hq])];simp only[a7,a8,a4];congr 1;omega
theorem SI:∀(l:List dy)(a:List (List Nat))(t:az)(st:Int)(i:Nat),(st=1\/st=2)->(∀p∈l,lM (mK p)/\0<=p.dh/\p.dh<12)->ff (l.map (fun p=>gv (mK p))++a) t st i=ff a {t with aF:=t.aF++l} (if l=[]then st else 2) (i+l.length)
 |[],a,t,st,i,_,_=>by simp
 |p::l,a,t,st,i,aI,h=>by
  obtain⟨c,d,f⟩:=h p s_;have b:=ye (n:=p.dh) o_;rw[be,a1,ff,u4 c];have e:dK t st (mK p)=({t with aF:=t.aF++[p]},2,true):=by
   unfold dK;simp[mK,b,aI]
  rw[e,if_pos rfl];dsimp only;rw[SI l a _ 2 (i+1) (.inr rfl) fun q hq=>h q (by simp[hq])];simp only[a7,a8,a4,ite_self];rw[if_neg s_];congr 1;omega
theorem SJ:∀(l:List bD)(a:List (List Nat))(t:az)(st:Int)(i:Nat),st≠0->(∀p∈l,lM (mM p))->ff (l.map (fun p=>gv (mM p))++a) t st i=ff a {t with aj:=t.aj++l} (if l=[]then st else 3) (i+l.length)
 |[],a,t,st,i,_,_=>by simp
 |p::l,a,t,st,i,aI,h=>by
  have b:=h p s_;rw[be,a1,ff,u4 b];have e:dK t st (mM p)=({t with aj:=t.aj++[p]},3,true):=by
   unfold dK;simp[mM,aI]
  rw[e,if_pos rfl];dsimp only;rw[SJ l a _ 3 (i+1) (by decide) fun q hq=>h q (by simp[hq])];simp only[a7,a8,a4,ite_self];rw[if_neg s_];congr 1;omega
theorem SG{t:az}(h:uO t)(b:List (List Nat)):ff (ia t++b) zT 0 0=ff b t (if t.aj=[]then(if t.aF=[]then 1 else 2)else 3) (1+t.cs.length+t.aF.length+t.aj.length):=by
 obtain⟨f,g,i,j⟩:=Ia h;have c:=ye (n:=t.aX) (by have:=h.r1;have:=h.r2;omega);have e:dK zT 0 (oU t.aX)=({zT with aX:=t.aX},1,true):=by
  unfold dK;simp[oU,c]
 rw[ia,a1,a1,ff,u4 f,e,if_pos rfl];dsimp only;rw[a7,SH _ _ _ _ fun p a=>⟨g p a,h.iD p a⟩,a7,SI _ _ _ _ _ (.inl rfl) fun p a=>⟨i p a,(h.pk p a).2.1,(h.pk p a).2.2.1⟩,
  SJ _ _ _ _ _ (by split<;>decide) j]
 have d:({cs:=zT.cs++t.cs,aX:=t.aX,aF:=zT.aF++t.aF,aj:=zT.aj++t.aj}:az)=t:=by simp[zT]
 dsimp only;rw[d]
theorem HA{t:az}(h:uO t):∀l∈ia t,10∉l:=by
 obtain⟨b,c,d,e⟩:=Ia h;intro l hl;simp only[ia,a1,aT,a5,b5]at hl;rcases hl with rfl|⟨p,a,rfl⟩|⟨p,a,rfl⟩|⟨p,a,rfl⟩
 ·exact vk b
 ·exact vk (c p a)
 ·exact vk (d p a)
 ·exact vk (e p a)
theorem BK{a:List (List Nat)}(b:a≠[])(h:∀l∈a,10∉l)(hl:(fQ a).length<=4096):eS (fQ a)=0:=by
 rw[eS,if_neg o_,if_pos (xQ b h).1]
theorem TX{t:az}(h:cB t=0)(hl:(jf t).length<=4096):fN (jf t)=(t,0,0):=by
 have b:=yh h;have a:ia t≠[]:=by simp[ia]
 have c:=HA b;have r:=SG b [];rw[List.append_nil,ff]at r;rw[BD]at hl⊢;rw[fN,if_neg (by rw[BK a c hl];simp),(xQ a c).2,r];dsimp only;rw[if_neg (by simp[h])]
theorem Uv{t:az}(h:cB t=0)(hs:t.aj≠[])(hl:(jf t).length<=4000):fN (jf t++[99,111,114,110,101,114,32,48,32,48,10])=(zT,((1+t.cs.length+t.aF.length+t.aj.length+1:Nat):Int),25):=by
 have b:=yh h;have f:=HA b;obtain⟨x,hx⟩:∃x:List Nat,x=[99,111,114,110,101,114,32,48,32,48]:=⟨_,rfl⟩
 have e:jf t++[99,111,114,110,101,114,32,48,32,48,10]=fQ (ia t++[x]):=by
  rw[BD,fQ,fQ,List.flatMap_append,hx];simp
 have a:ia t++[x]≠[]:=s_
 have c:∀l∈ia t++[x],10∉l:=by
  intro l hl;rcases a5.1 hl with hl|hl
  ·exact f l hl
  ·simp at hl;rw[hl,hx];decide
 have r:=SG b [x];have d:(fQ (ia t++[x])).length<=4096:=by rw[<-e];simp;omega
 rw[e,fN,if_neg (by rw[BK a c d];simp),(xQ a c).2,r,if_neg hs];have e2:dY x=[[99,111,114,110,101,114],[48],[48]]:=by rw[hx];rfl
 rw[ff,e2];have e3:(dK t 3 [[99,111,114,110,101,114],[48],[48]]).2.2=false:=by
  unfold dK;simp
 rw[if_neg (by rw[e3];simp)]
def EY(t:az)(st:Int):Prop:=(st=1/\t.aF=[]/\t.aj=[])\/(st=2/\t.aj=[])\/st=3
theorem aLv{t:az}{st:Int}{l:List Nat}(hi:EY t st)(h:(dK t st (dY l)).2.2=true):ia (dK t st (dY l)).1=ia t++[l]/\EY (dK t st (dY l)).1 (dK t st (dY l)).2.1:=by
 have j:dY l≠[]:=by intro e;rw[e]at h;simp[dK]at h
 have d:=Ib j;generalize dY l=ws at*;rcases ws with _|⟨w,r⟩
 ·exact(j rfl).elim
 have aI:¬st=0:=by rcases hi with⟨h,_⟩|⟨h,_⟩|h<;>omega
 unfold dK at h⊢
 by_cases m:w=[114,97,100,105,117,115]
 ·simp only[m,if_true]at h
  split at h
  ·rw[if_neg aI]at h;cases h
  ·cases h
 simp only[if_neg m]at h⊢
 by_cases f:w=[99,111,114,110,101,114]
 ·simp only[if_pos f]at h⊢
  split at h
  ·rename_i a b
   split at h
   ·rename_i hs;rw[if_pos hs];simp only[ao]at h;have e1:=u6 h.1;have e2:=u6 h.2;obtain⟨k,c⟩:t.aF=[]/\t.aj=[]:=by rcases hi with⟨_,h⟩|⟨h,_⟩|h;exact h;omega;omega
    refine⟨?_,.inl ⟨hs,k,c⟩⟩;have e3:gv (mF ⟨(cr a).1,(cr b).1⟩)=l:=by rw[mF,e1,e2,<-f];exact d
    simp[ia,k,c,e3]
   ·cases h
  ·cases h
 simp only[if_neg f]at h⊢
 by_cases g:w=[112,111,99,107,101,116]
 ·simp only[if_pos g]at h⊢
  split at h
  ·rename_i n e a b
   split at h
   ·rename_i hs;rw[if_pos hs];have e1:=u6 h;have c:t.aj=[]:=by rcases hi with⟨_,_,h⟩|⟨_,h⟩|h;exact h;exact h;omega
    refine⟨?_,.inr (.inl ⟨rfl,c⟩)⟩;have e3:gv (mK ⟨n,(cr e).1,a,b⟩)=l:=by rw[mK,e1,<-g];exact d
    simp[ia,c,e3]
   ·cases h
  ·cases h
 simp only[if_neg g]at h⊢
 by_cases i:w=[115,112,111,116]
 ·simp only[if_pos i]at h⊢
  split at h
  ·rename_i n x y;rw[if_neg aI];refine⟨?_,.inr (.inr rfl)⟩;have e3:gv (mM ⟨n,⟨x,y⟩⟩)=l:=by rw[mM,<-i];exact d
   simp[ia,e3]
  ·cases h
 simp only[if_neg i]at h;cases h
theorem Io:∀(a:List (List Nat))(t:az)(st:Int)(i:Nat)(b:az)(k:Nat),EY t st->ff a t st i=(some b,k)->ia b=ia t++a
 |[],t,st,i,b,k,_,h=>by
  simp[ff]at h;rw[h.1];simp
 |l::a,t,st,i,b,k,hi,h=>by
  rw[ff]at h
  split at h
  ·rename_i hk;obtain⟨c,d⟩:=aLv hi hk;rw[Io a _ _ _ _ _ d h,c];simp
  ·simp at h
theorem Uj{l:List Nat}{b:List (List Nat)}{g:az}{k:Nat}(h:ff (l::b) zT 0 0=(some g,k)):ia g=l::b:=by
 rw[ff]at h
 split at h
 case isFalse=>simp at h
 rename_i hk;have f:dY l≠[]:=by intro e;rw[e]at hk;simp[dK]at hk
 have d:=Ib f;generalize dY l=ws at*;rcases ws with _|⟨w,r⟩
 ·exact(f rfl).elim
 have key:∃a,w::r=[[114,97,100,105,117,115],a]/\(cr a).2=true:=by
  unfold dK at hk
  by_cases c:w=[114,97,100,105,117,115]
  ·simp only[if_pos c]at hk
   split at hk
   ·rename_i a;exact⟨a,by rw[c],by simpa using hk⟩
   ·cases hk
  simp only[if_neg c]at hk
  by_cases i:w=[99,111,114,110,101,114]
  ·simp only[if_pos i]at hk
   split at hk
   ·simp at hk
   ·cases hk
  simp only[if_neg i]at hk
  by_cases j:w=[112,111,99,107,101,116]
  ·simp only[if_pos j]at hk
   split at hk
   ·simp at hk
   ·cases hk
  simp only[if_neg j]at hk
  by_cases m:w=[115,112,111,116]
  ·simp only[if_pos m]at hk
   split at hk
   ·simp at hk
   ·cases hk
  simp only[if_neg m]at hk;cases hk
 obtain⟨a,o,p⟩:=key;rw[o]at h d;have e:dK zT 0 [[114,97,100,105,117,115],a]=({zT with aX:=(cr a).1},1,(cr a).2):=by
  unfold dK;simp
 rw[e]at h;dsimp only at h;have n:=Io b _ 1 _ _ _ (.inl ⟨rfl,rfl,rfl⟩) h;have e3:gv (oU (cr a).1)=l:=by rw[oU,u6 p];exact d
 rw[n];simp[ia,zT,e3]
theorem TW{s:List Nat}(h:(fN s).2.2=0):cB (fN s).1=0/\jf (fN s).1=s/\(fN s).2.1=0:=by
 rw[fN]at h⊢
 split at h
 ·contradiction
 rename_i d;rw[if_neg d];have hl:s.getLast?=some 10:=by
  have a:eS s=0:=by simpa using d
  rw[eS]at a
  split at a
  ·cases a
  ·split at a
   ·assumption
   ·cases a
 have f:=aLZ hl;have e:=vf 10 s.dropLast;generalize bR 10 s.dropLast=ls at*;rcases ls with _|⟨l,ls⟩
 ·exact(e rfl).elim
 rcases c:ff (l::ls) zT 0 0 with⟨_|t,k⟩
 ·rw[c]at h;cases h
 ·rw[c]at h;dsimp only at h⊢
  split at h
  ·contradiction
  ·rename_i b;rw[if_neg b];dsimp only;have b:cB t=0:=by simpa using b
   refine⟨b,?_,rfl⟩;rw[BD,Uj c,f]
theorem Un{s:List Nat}(h:(fN s).2.2≠0):(fN s).1=zT:=by
 rw[fN]at h⊢
 split at h
 ·rename_i a;rw[if_pos a]
 rename_i a;rw[if_neg a];generalize ff (bR 10 s.dropLast) zT 0 0=R at*;obtain⟨_|t,k⟩:=R
 ·rfl
 ·dsimp only at h⊢
  split at h
  ·rename_i b;rw[if_pos b]
  ·exact(h rfl).elim
theorem Bs(l:List bD):ju l=fQ (l.map fun s=>gv (nC s)):=by
 rw[xV,ju,gB,a3];rfl
theorem aMU{l:List bD}(h:ur l):∀s∈l,lM (nC s):=by
 intro s hs;obtain⟨b,c,d⟩:=h.sp s hs;refine⟨by simp[nC],?_⟩;intro w a;simp only[nC,aT,a9,or_false]at a;rcases a with rfl|rfl|rfl|rfl
 ·decide
 ·exact BB b
 ·exact sS c
 ·exact sS d
theorem HY:∀(l:List bD)(out:List bD)(i:Nat),(∀s∈l,lM (nC s))->jc (l.map fun s=>gv (nC s)) out i=(some (out++l),0)
 |[],out,i,_=>by simp[jc]
 |s::l,out,i,h=>by
  rw[be,jc,u4 (h s s_)];have e:kq (nC s)=some s:=by simp[nC,kq]
  rw[e];dsimp only;rw[HY l _ _ fun z a=>h z (by simp[a])];simp
theorem T9{t b:az}(h:cB t=0)(f:fW t b=0)(hl:(ju b.aj).length<=4096):iU t (ju b.aj)=(b.aj,0,0):=by
 have g:=yk f;have c:=aMU g;rw[iU,if_neg (by simp[h]),iL];rcases i:b.aj with _|⟨s,l⟩
 ·simp[ju,gB]
 rw[i]at g c hl;have d:((s::l).map fun s=>gv (nC s))≠[]:=s_
 have j:∀x∈(s::l).map fun s=>gv (nC s),10∉x:=by
  intro x hx;obtain⟨z,m,rfl⟩:=b5.1 hx;exact vk (c z m)
 have a:=xQ d j;have k:¬ju (s::l)=[]:=by
  rw[Bs];intro e;rw[e]at a;simp at a
 rw[if_neg k,Bs,if_neg (by rw[BK d j (by rw[<-Bs];exact hl)];simp),a.2,HY _ _ _ c];dsimp only;have e2:fW t (fo (s::l))=0:=by
  have:fW t (fo (s::l))=fW t b:=by rw[fW,fW,fo,i]
  rw[this,f]
 rw[b3,if_neg (by simp[e2])]
theorem sV{s:List Nat}(h:fK s 9=true):s.length<=20:=by
 simp only[fK,ao,decide_eq_true_eq]at h;omega
theorem TV{t:az}(h:uO t)(v:t.aj.length<=8)(e:∀p∈t.aF,p.a.length<=20/\p.b.length<=20)(g:∀s∈t.aj,s.pt.x.length<=20/\s.pt.y.length<=20):(jf t).length<=2500:=by
 have i:=BQ h.r1 h.r2;have j:=nQ (f:=lW) (m:=30) (l:=t.cs) fun p c=>BS (h.iD p c);have o:=nQ (f:=lD) (m:=90) (l:=t.aF) fun p c=>by
  obtain⟨d,r,u,_,_⟩:=h.pk p c;have k1:=sP (n:=p.dh) (k:=2) o_ o_;have k2:=sR d;have k3:=e p c;simp[lD,fg,dE];omega
 have q:=nQ (f:=lG) (m:=90) (l:=t.aj) fun p c=>by
  obtain⟨d,_,_⟩:=h.sp p c;have k2:=sR d;have k3:=g p c;simp[lG,fg,dE];omega
 have c1:=h.cl;have c2:=h.pl;simp only[jf,ek,a3,b2];omega
theorem T8{l:List bD}(h:ur l)(e:l.length<=6)(c:∀s∈l,s.pt.x.length<=20/\s.pt.y.length<=20):(ju l).length<=600:=by
 have d:=nQ (f:=jl) (m:=90) (l:=l) fun p a=>by
  obtain⟨b,_,_⟩:=h.sp p a;have k2:=sR b;have k3:=c p a;simp[jl,fg,dE];omega
 simp only[ju,gB,a3];omega
theorem Ux(e:aA prog 9 [] (.bool true))(t b:az)(s:List Nat)(a:gF t)(f:nT b)(hc:∀c∈s,c<256):aA prog 5 [cd t,.seq (b.aj.map aP),.str s] (.bool true):=by
 have s0:=aeK t b 6 9 a f o_ o_;rcases i:AF t b 6 9 with _|_
 ·rw[i]at s0;refine aM nf (i_ func5) mix (by simp[f5]) ?_;simp[f5,ad];refine c4_ s0 ?_;simp[ad];refine c0_ e ?_;simp[ad]
 rw[i]at s0
 by_cases hs:s.length<=1500
 case neg=>
  have o:1500<s.length:=o_
  have q:(1500:Int)<(s.length:Int):=o_
  refine aM nf (i_ func5) mix (by simp[f5]) ?_;simp[f5,ad];refine c4_ s0 ?_;simp[o,q,ad];refine c0_ e ?_;simp[ad]
 have o:¬1500<s.length:=o_
 have q:¬(1500:Int)<(s.length:Int):=o_
 simp only[AF,ao,decide_eq_true_eq,bo]at i;obtain⟨_,_,Q,G,S,H,V,X⟩:=i;rw[yd]at G;obtain⟨d,k⟩:=G;have n:=yh d;have L:=yk k;have ae:=TV n S (fun p g=>⟨sV (H p g).1,sV (H p g).2⟩) (fun p g=>by
  have:=V p g;simp only[nH,ao]at this;exact⟨sV this.1,sV this.2⟩)
 have ab:=T8 L Q (fun p g=>by
  have:=X p g;simp only[nH,ao]at this;exact⟨sV this.1,sV this.2⟩)
 have D:∀c∈jf t,c<256:=HO a _ _ _;have M:∀c∈ju b.aj,c<256:=HQ f.sp _;have q0:=GK t a.cl a.pl a.sl;have q1:=HE t a;rw[if_neg (by simp[d]),if_neg (by simp[d]),kF,if_neg o_]at q1;have w:=BT (jf t) o_ D;rw[TX d o_]at w;have Z:=Ht b f.sl;have B:iM t b=0:=yd.2 ⟨d,k⟩;have x:=Hv t b a f;rw[if_neg (by simp[B]),if_neg (by simp[B]),kF,if_neg o_]at x;have q4:=Hw t (ju b.aj) a o_ M;rw[T9 d k o_]at q4;dsimp only at q1 w x q4;have y:=BT s o_ hc;have T:=QT t a.pl a.sl;have U:=Ju t a.cl a.pl a.sl;have W:=Bz b f.sl;have Y:=BE b.aj f.sl;have E:=QT zT (by simp[zT]) (by simp[zT]);have F:=Ju zT (by simp[zT]) (by simp[zT]) (by simp[zT]);have A:cd zT=.st 25 [.seq [],.int .i64 0,.seq [],.seq []]:=rfl;have C:=Ul (s:=s) o_ hc;have l:(fN s).2.2=0->aA prog 10 [cz (fN s).1] (.aE [.str s,.int .i64 0]):=fun h=>by
  obtain⟨k1,k2,_⟩:=TW h;have k3:=HE (fN s).1 C;rw[if_neg (by simp[k1]),if_neg (by simp[k1]),k2,kF,if_neg o_]at k3;exact k3
 have m:(fN s).2.2≠0->(fN s).1=zT:=Un;generalize fN s=R at*;obtain⟨u,af,z⟩:=R;dsimp only at y l m C;have cl:=n.cl;have pl:=n.pl;have P:av.wrap 0=0:=by decide
 refine aM nf (i_ func5) mix (by simp[f5]) ?_;simp[f5,ad];refine c4_ s0 ?_;simp[o,q,ad];refine c1_ q0 ?_;simp[ad];refine c1_ q1 ?_;simp[ad];refine c1_ w ?_;simp[ad];refine c1_ q0 ?_;simp[ad];refine c1_ Z ?_;simp[ad];refine c2_ x ?_;simp[ad];refine c1_ q0 ?_;simp[ad];refine c2_ q4 ?_;simp[P,ad];refine e1_ T ?_;simp[ad];refine e2_ U ?_;simp[ad];refine e1_ W ?_;simp[ad];refine e2_ Y ?_;simp[ad]
 by_cases j:t.aj=[]
 ·simp[j,ad];refine c1_ y ?_;simp[ad]
  by_cases he:z=0
  ·subst he;simp[ad];refine c1_ (l rfl) ?_;simp[ad];refine c0_ e ?_;simp[ad]
  ·have r:=m he;subst r;simp[he,ad];refine c1_ E ?_;simp[ad];refine c2_ F ?_ (h2:=by simp[A]);simp[ad];refine c0_ e ?_;simp[ad]
 ·have N:0<t.aj.length:=b1.2 j;have O:(0:Int)<(t.aj.length:Int):=by omega
  have v:=BT (jf t++[99,111,114,110,101,114,32,48,32,48,10]) (by simp;omega) (by
   intro c hc;rcases a5.1 hc with hc|hc
   ·exact D c hc
   ·simp at hc;omega)
  rw[Uv d j o_]at v;dsimp only at v;have I:av.wrap (1+(t.cs.length:Int))=1+(t.cs.length:Int):=aO _ o_ o_;have J:av.wrap (1+(t.cs.length:Int)+(t.aF.length:Int))=1+(t.cs.length:Int)+(t.aF.length:Int):=aO _ o_ o_;have K:av.wrap (1+(t.cs.length:Int)+(t.aF.length:Int)+(t.aj.length:Int))=1+(t.cs.length:Int)+(t.aF.length:Int)+(t.aj.length:Int):=aO _ o_ o_;have aa:av.wrap (1+(t.cs.length:Int)+(t.aF.length:Int)+(t.aj.length:Int)+1)=1+(t.cs.length:Int)+(t.aF.length:Int)+(t.aj.length:Int)+1:=aO _ o_ o_;have ac:(jf t).length+11<=1000000:=o_
  simp[j,N,O,I,J,K,ad];refine⟨o_,?_⟩;refine c1_ v ?_;simp[I,J,K,aa,ad];refine c1_ y ?_;simp[ad]
  by_cases he:z=0
  ·subst he;simp[ad];refine c1_ (l rfl) ?_;simp[ad];refine c0_ e ?_;simp[ad]
  ·have r:=m he;subst r;simp[he,ad];refine c1_ E ?_;simp[ad];refine c2_ F ?_ (h2:=by simp[A]);simp[ad];refine c0_ e ?_;simp[ad]
end Go.au
