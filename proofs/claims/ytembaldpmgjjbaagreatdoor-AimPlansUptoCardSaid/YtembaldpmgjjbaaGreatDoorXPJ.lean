import Derived.Test.YtembaldpmgjjbaaGreatDoorXPI
import Derived.Test.YtembaldpmgjjbaaGreatDoorXPH
/- Parts of a proof. -/
set_option maxRecDepth 100000
set_option maxHeartbeats 4000000
set_option linter.unusedSimpArgs false
set_option linter.unusedVariables false
set_option linter.unusedSectionVars false
open Go.Proofs.Tryz
open And renaming intro->aT
open Bool renaming and_eq_true->a1, cond_eq_ite->a6, or_eq_true->a7, true_and->a8
open Go renaming FuncId->bb
open Go.IntKind renaming i64->be
open Int renaming neg_mul->bf, mul_zero->bi, mul_one->bl, toNat_natCast->bo, zero_mul->bp
open List renaming mem_of_getElem?->bv, map_cons->bw, getElem?_take->bI, map_nil->bV, find?_cons->b0, find?_eq_none->b1, foldl_append->b2, range_succ->b3, range->b4, drop_eq_getElem_cons->b5, length_filter_le->ca, zip_cons_cons->cb, mem_singleton->cc, filter_append->cd, zip_nil_left->ck, any_eq_true->cx, all_eq_true->cy, append_nil->c6, mem_range->c9
open Nat renaming mod_eq_of_lt->da, lt_or_ge->db, eq_of_beq_eq_true->dd, mod_self->dg, lt_trichotomy->dl, add_mod_right->dp, eq_zero_or_pos->dq, not_lt_zero->dx, le_trans->dy, beq->dz, le_refl->ea
open Option.some renaming injEq->eb
open Rat renaming div_def->ec, mul_inv_cancel->ed, mul_eq_zero->ee, sub_eq_add_neg->ei, add_zero->ej, intCast_sub->eo, zero_mul->eq, div_mul_cancel->er, le_of_lt->ew, intCast_inj->ey, neg_neg->eM, mul_zero->eP, neg_sub->e7, not_lt->e8, intCast_mul->e9, sub_self->fb, neg_zero->fd, mul_comm->fi, add_comm->fl, mul_one->fm
namespace Go.ae
open Go.ae renaming c1->c1_, c2->c2_, c3->c3_, c4->c4_, c5->c5_, e0->e0_, e1->e1_, e2->e2_, e3->e3_, e4->e4_
open Go.Proofs Go.Proofs.YtembaldpmgjjbaaGreatDoor
structure BG where
 t:ah
 b:ah
 ar:List Nat
 aB:List Nat
def Up(s:BG):PV:=jt s.t s.b s.ar s.aB
structure VR(s:BG):Prop where
 t:fu s.t
 b:im s.b
 ar:ky s.ar
 aB:ky s.aB
section
variable{H:Type}{W:World}{ad:Nat->Prop}
theorem aQU:∃a b:Field,prog.underlying 129=some (.struct #[a,b])/\a.type=9/\b.type=32:=⟨_,_,underlying129,rfl,rfl⟩
theorem Wr:prog.underlyingId 129=90:=k_
theorem Yt{m n:Nat}(s:m=n+2){d:DataW H}(h:∃cs,bc prog W ad (bO prog (m+1) 129 d) cs)(o:Rows.uptoBulk d<=1048576):∃p:de,bO prog (m+1) 129 d=bP p/\qV p/\2<=Rows.uptoBulk d:=by
 obtain⟨cs,h⟩:=h;obtain⟨f0,f1,g,t0,t1⟩:=aQU;cases d with
 |agg l=>
  have f:∀x∈l,Rows.uptoBulk x<=1048576:=fun x hx=>by
   have:=tY.yh hx;rw[Rows.uptoBulk]at o;omega
  simp only[bO,g,bc]at h⊢;obtain⟨u,t,e,c,_⟩:=h;rw[Wr,Wm]at e;cases e
  match l,c with
  |[],c=>simp[bA]at c
  |[x],c=>simp[bA]at c
  |x::y::r,c=>
   have:=BJ x;simp only[cb,bw,bA,ck,bV,t0,t1]at c⊢;obtain⟨c0,_,_,g1,_,c1,_,_,g2,_⟩:=c;subst s;obtain⟨a,i,k⟩:=yU (n:=n+1) ⟨c0,g1⟩ (f x s_);obtain⟨b,j,q⟩:=G7 (n:=n) ⟨c1,g2⟩ (f y s_);refine⟨⟨a,b⟩,by rw[i,j,Wr];rfl,⟨k,q⟩,?_⟩;rw[Rows.uptoBulk,Rows.uptoBulkAll];omega
 |_=>simp only[bO,g,bc]at h
theorem aQY:∃a b f2 f3:Field,prog.underlying 29=some (.struct #[a,b,f2,f3])/\a.type=26/\b.type=27/\f2.type=9/\f3.type=9:=⟨_,_,_,_,underlying29,rfl,rfl,rfl,rfl⟩
theorem Wv:prog.underlyingId 29=28:=k_
theorem aQh{m n:Nat}(s:m=n+5){d:DataW H}(h:∃cs,bc prog W ad (bO prog (m+1) 29 d) cs)(f:Rows.uptoBulk d<=1048576):∃t:BG,bO prog (m+1) 29 d=Up t/\True/\VR t:=by
 obtain⟨cs,h⟩:=h;obtain⟨f0,f1,f2,f3,i,t0,t1,t2,t3⟩:=aQY;cases d with
 |agg l=>
  have e:∀x∈l,Rows.uptoBulk x<=1048576:=fun x hx=>by
   have:=tY.yh hx;rw[Rows.uptoBulk]at f;omega
  simp only[bO,i,bc]at h⊢;obtain⟨E,D,g,c,_⟩:=h;rw[Wv,aQC]at g;cases g
  match l,c with
  |[],c=>simp[bA]at c
  |[x],c=>simp[bA]at c
  |[x,y],c=>simp[bA]at c
  |[x,y,z],c=>simp[bA]at c
  |x::y::z::w::r,c=>
   simp only[cb,bw,bA,ck,bV,t0,t1,t2,t3]at c⊢;obtain⟨c0,_,_,g0,_,c1,_,_,g1,_,c2,_,_,g2,_,c3,_,_,g3,_⟩:=c;subst s;obtain⟨a,j,_,o⟩:=aQE (n:=n) rfl ⟨c0,g0⟩ (e x s_);obtain⟨b,k,p,C⟩:=BV (n:=n+4) aQT (F:=bP) (ok:=qV) (fun d q f=>Yt (n:=n+1) rfl q f) ⟨c1,g1⟩ (e y s_);obtain⟨u,eu,A⟩:=yU (n:=n+4) ⟨c2,g2⟩ (e z s_);obtain⟨v,ev,B⟩:=yU (n:=n+4) ⟨c3,g3⟩ (e w s_);exact⟨⟨a,⟨[],0,[],b⟩,u,v⟩,by rw[j,k,eu,ev,Wv];rfl,trivial,o,⟨C,p⟩,A,B⟩
 |_=>simp only[bO,i,bc]at h
theorem Y2{d:DataW H}(h:∃cs,bc prog W ad (bO prog 8 29 d) cs)(a:Rows.uptoBulk d<=1048576):∃t:BG,bO prog 8 29 d=Up t/\True/\VR t:=aQh (n:=2) rfl h a
end
open Go.Proofs
namespace Hk
mutual
def wv:PV->PV->Bool
 | .int .i64 a,.int .i64 b=>sN a b
 | .int .u64 a,.int .u64 b=>sN a b
 | .bool a,.bool b=>a==b
 | .str a,.str b=>wu a b
 | .aM,.aM=>true
 | .gB,.gB=>true
 | .dD f a,.dD g b=>bif f==g then oy a b else false
 | .seq a,.seq b=>oy a b
 | .fA a,.fA b=>yD a b
 | .st u a,.st v b=>bif dz u v then oy a b else false
 | .aE a,.aE b=>oy a b
 | .func f a b,.func g c d=>bif dz f g then(bif oy a c then oy b d else false)else false
 | .cW a,.cW b=>wv a b
 |_,_=>false
def oy:List PV->List PV->Bool
 |[],[]=>true
 |a::l,b::m=>bif wv a b then oy l m else false
 |_,_=>false
def yD:List (PV×PV)->List (PV×PV)->Bool
 |[],[]=>true
 |(a,c)::l,(b,d)::m=>bif wv a b then(bif wv c d then yD l m else false)else false
 |_,_=>false
end
mutual
theorem Ar:∀{a b:PV},wv a b=true->a=b
 |a,b,h=>by
  unfold wv at h
  split at h
  ·rw[DS h]
  ·rw[DS h]
  ·rw[eq_of_beq h]
  ·rw[Hm h]
  ·rfl
  ·rfl
  ·rename_i f a g b;cases hf:f==g
   ·rw[hf]at h;cases h
   ·rw[hf,cond_true]at h;rw[eq_of_beq hf,tE h]
  ·rw[tE h]
  ·rw[Rr h]
  ·simp only[a6]at h
   split at h
   ·rename_i i;rw[dd i,tE h]
   ·cases h
  ·rw[tE h]
  ·simp only[a6]at h
   split at h
   ·rename_i i
    split at h
    ·rename_i e;rw[dd i,tE e,tE h]
    ·cases h
   ·cases h
  ·rw[Ar h]
  ·cases h
theorem tE:∀{a b:List PV},oy a b=true->a=b
 |[],[],_=>rfl
 |[],_::_,h=>by simp[oy]at h
 |_::_,[],h=>by simp[oy]at h
 |a::l,b::m,h=>by
  simp only[oy,a6]at h
  split at h
  ·rename_i e;rw[Ar e,tE h]
  ·cases h
theorem Rr:∀{a b:List (PV×PV)},yD a b=true->a=b
 |[],[],_=>rfl
 |[],_::_,h=>by simp[yD]at h
 |_::_,[],h=>by simp[yD]at h
 |(a,c)::l,(b,d)::m,h=>by
  simp only[yD,a6]at h
  split at h
  ·rename_i e
   split at h
   ·rename_i j;rw[Ar e,Ar j,Rr h]
   ·cases h
  ·cases h
end
def AJ:List (bb×List PV×PV)->bb->List PV->Option PV
 |[],f,vs=>hk f vs
 |(g,us,v)::r,f,vs=>bif dz g f then(bif oy us vs then some v else AJ r f vs)else AJ r f vs
def nD:List (bb×List PV×PV)->Prop
 |[]=>True
 |(g,us,v)::r=>al prog g us v/\nD r
theorem Ac:∀{l m:List (bb×List PV×PV)},nD l->nD m->nD (l++m)
 |[],_,_,h=>h
 |_::_,_,h,a=>⟨h.1,Ac h.2 a⟩
theorem Gw:∀{l:List (bb×List PV×PV)},nD l->∀f vs v,AJ l f vs=some v->al prog f vs v
 |[],_,f,vs,v,h=>aMp h
 |(g,us,w)::r,a,f,vs,v,h=>by
  simp only[AJ,a6]at h
  split at h
  ·rename_i b
   split at h
   ·rename_i hs;simp only[eb]at h;subst h;rw[<-tE hs,<-dd b];exact a.1
   ·exact Gw a.2 f vs v h
  ·exact Gw a.2 f vs v h
def VD(v:PV):Option PV->Bool
 |some w=>wv v w
 |none=>false
theorem aN4{v:PV}{o:Option PV}(h:VD v o=true):o=some v:=by
 cases o with
 |none=>cases h
 |some w=>rw[Ar h]
def aPm:bb->bb->Nat:=fun _ _=>0
theorem dv(l:List (bb×List PV×PV))(a:nD l){f:bb}{vs:List PV}{v:PV}(h:VD v (Wa (AJ l) aPm f vs)=true):al prog f vs v:=RH (Gw a) (aN4 h)
end Hk
namespace lW
def T:PV:=.st 42 [.dD true [.st 139 [.int .i64 0,.int .i64 0],.st 139 [.int .i64 2000,.int .i64 0],.st 139 [.int .i64 2000,.int .i64 1000],.st 139 [.int .i64 0,.int .i64 1000]],.int .i64 30,.dD true [.st 108 [.str [97],.int .i64 0,.str [48],.str [49,47,50,48]],.st 108 [.str [99],.int .i64 1,.str [57,47,50,48],.str [49,49,47,50,48]]],.aM]
def B:PV:=.dD true [.st 90 [.str [99,117,101],.st 31 [.str [53,48,48],.str [53,48,48]]],.st 90 [.str [111,110,101],.st 31 [.str [49,48,48,48],.str [53,48,48]]],.st 90 [.str [116,119,111],.st 31 [.str [49,48,48,48],.str [55,48,48]]]]
def ar:PV:=.str [99,117,101]
def one:PV:=.str [111,110,101]
def X:PV:=.st 45 [T,B,ar,one]
def Y:PV:=.st 104 [.st 102 [T,B,.fA [(.str [99,117,101],.st 121 [.st 100 [.st 98 [.int .i64 500,.aM],.st 98 [.int .i64 1,.aM]],.st 100 [.st 98 [.int .i64 500,.aM],.st 98 [.int .i64 1,.aM]]]),(.str [111,110,101],.st 121 [.st 100 [.st 98 [.int .i64 1000,.aM],.st 98 [.int .i64 1,.aM]],.st 100 [.st 98 [.int .i64 500,.aM],.st 98 [.int .i64 1,.aM]]]),(.str [116,119,111],.st 121 [.st 100 [.st 98 [.int .i64 1000,.aM],.st 98 [.int .i64 1,.aM]],.st 100 [.st 98 [.int .i64 700,.aM],.st 98 [.int .i64 1,.aM]]])],.st 100 [.st 98 [.int .i64 3600,.aM],.st 98 [.int .i64 1,.aM]]],.st 45 [T,B,.str [99,117,101],.str [111,110,101]]]
def WR:PV:=.dD false (.int .i64 0::[.int .i64 1,.int .i64 2,.int .i64 3,.int .i64 4,.int .i64 5,.int .i64 6,.int .i64 7,.int .i64 8,.int .i64 9,.int .i64 10,.int .i64 11,.int .i64 12,.int .i64 13,.int .i64 14,.int .i64 15,.int .i64 16,.int .i64 17,.int .i64 18,.int .i64 19,.int .i64 20,.int .i64 21,.int .i64 22,.int .i64 23,.int .i64 24,.int .i64 25,.int .i64 26,.int .i64 27,.int .i64 28,.int .i64 29,.int .i64 30,.int .i64 31,.int .i64 32]++[.int .i64 33,.int .i64 34,.int .i64 35,.int .i64 36,.int .i64 37,.int .i64 38,.int .i64 39,.int .i64 40,.int .i64 41,.int .i64 42,.int .i64 43,.int .i64 44,.int .i64 45,.int .i64 46,.int .i64 47,.int .i64 48,.int .i64 49,.int .i64 50,.int .i64 51,.int .i64 52,.int .i64 53,.int .i64 54,.int .i64 55,.int .i64 56,.int .i64 57,.int .i64 58,.int .i64 59,.int .i64 60,.int .i64 61,.int .i64 62,.int .i64 63,.int .i64 64])
def k0:List (bb×List PV×PV):=[]
theorem VF:Hk.nD k0:=trivial
theorem g1:al prog 75 [T] (.int .i64 0):=Hk.dv k0 VF k_
theorem g2:al prog 94 [T,B] (.int .i64 0):=Hk.dv k0 VF k_
def k1:List (bb×List PV×PV):=[(75,[T],.int .i64 0),(94,[T,B],.int .i64 0)]
theorem VG:Hk.nD k1:=⟨g1,g2,trivial⟩
theorem g3:al prog 40 [X] (.aE [Y,.int .i64 0]):=Hk.dv k1 VG k_
def k2:List (bb×List PV×PV):=[(40,[X],.aE [Y,.int .i64 0])]++k1
theorem fx:Hk.nD k2:=Hk.Ac (l:=[(40,[X],.aE [Y,.int .i64 0])]) ⟨g3,trivial⟩ VG
end lW
namespace lW
theorem y0:al prog 93 [Y,.int .i64 0] (.aE [.str [],.int .i64 18]):=Hk.dv k2 fx k_
theorem y1:al prog 93 [Y,.int .i64 1] (.aE [.str [],.int .i64 18]):=Hk.dv k2 fx k_
theorem y2:al prog 93 [Y,.int .i64 2] (.aE [.str [],.int .i64 18]):=Hk.dv k2 fx k_
theorem y3:al prog 93 [Y,.int .i64 3] (.aE [.str [],.int .i64 18]):=Hk.dv k2 fx k_
theorem y4:al prog 93 [Y,.int .i64 4] (.aE [.str [],.int .i64 18]):=Hk.dv k2 fx k_
theorem y5:al prog 93 [Y,.int .i64 5] (.aE [.str [],.int .i64 18]):=Hk.dv k2 fx k_
theorem y6:al prog 93 [Y,.int .i64 6] (.aE [.str [],.int .i64 18]):=Hk.dv k2 fx k_
theorem y7:al prog 93 [Y,.int .i64 7] (.aE [.str [],.int .i64 18]):=Hk.dv k2 fx k_
theorem y8:al prog 93 [Y,.int .i64 8] (.aE [.str [],.int .i64 18]):=Hk.dv k2 fx k_
theorem y9:al prog 93 [Y,.int .i64 9] (.aE [.str [],.int .i64 0]):=Hk.dv k2 fx k_
theorem y10:al prog 93 [Y,.int .i64 10] (.aE [.str [],.int .i64 0]):=Hk.dv k2 fx k_
theorem y11:al prog 93 [Y,.int .i64 11] (.aE [.str [],.int .i64 0]):=Hk.dv k2 fx k_
theorem y12:al prog 93 [Y,.int .i64 12] (.aE [.str [],.int .i64 0]):=Hk.dv k2 fx k_
theorem y13:al prog 93 [Y,.int .i64 13] (.aE [.str [],.int .i64 0]):=Hk.dv k2 fx k_
theorem y14:al prog 93 [Y,.int .i64 14] (.aE [.str [],.int .i64 0]):=Hk.dv k2 fx k_
theorem y15:al prog 93 [Y,.int .i64 15] (.aE [.str [],.int .i64 0]):=Hk.dv k2 fx k_
theorem y16:al prog 93 [Y,.int .i64 16] (.aE [.str [],.int .i64 0]):=Hk.dv k2 fx k_
theorem y17:al prog 93 [Y,.int .i64 17] (.aE [.str [],.int .i64 0]):=Hk.dv k2 fx k_
theorem y18:al prog 93 [Y,.int .i64 18] (.aE [.str [],.int .i64 0]):=Hk.dv k2 fx k_
theorem y19:al prog 93 [Y,.int .i64 19] (.aE [.str [],.int .i64 0]):=Hk.dv k2 fx k_
theorem y20:al prog 93 [Y,.int .i64 20] (.aE [.str [],.int .i64 0]):=Hk.dv k2 fx k_
theorem y21:al prog 93 [Y,.int .i64 21] (.aE [.str [],.int .i64 0]):=Hk.dv k2 fx k_
theorem y22:al prog 93 [Y,.int .i64 22] (.aE [.str [],.int .i64 0]):=Hk.dv k2 fx k_
theorem y23:al prog 93 [Y,.int .i64 23] (.aE [.str [],.int .i64 0]):=Hk.dv k2 fx k_
theorem y24:al prog 93 [Y,.int .i64 24] (.aE [.str [],.int .i64 18]):=Hk.dv k2 fx k_
theorem y25:al prog 93 [Y,.int .i64 25] (.aE [.str [],.int .i64 18]):=Hk.dv k2 fx k_
theorem y26:al prog 93 [Y,.int .i64 26] (.aE [.str [],.int .i64 18]):=Hk.dv k2 fx k_
theorem y27:al prog 93 [Y,.int .i64 27] (.aE [.str [],.int .i64 18]):=Hk.dv k2 fx k_
theorem y28:al prog 93 [Y,.int .i64 28] (.aE [.str [],.int .i64 18]):=Hk.dv k2 fx k_
theorem y29:al prog 93 [Y,.int .i64 29] (.aE [.str [],.int .i64 18]):=Hk.dv k2 fx k_
theorem y30:al prog 93 [Y,.int .i64 30] (.aE [.str [],.int .i64 18]):=Hk.dv k2 fx k_
theorem y31:al prog 93 [Y,.int .i64 31] (.aE [.str [],.int .i64 18]):=Hk.dv k2 fx k_
def k3:List (bb×List PV×PV):=[(93,[Y,.int .i64 0],.aE [.str [],.int .i64 18]),(93,[Y,.int .i64 1],.aE [.str [],.int .i64 18]),(93,[Y,.int .i64 2],.aE [.str [],.int .i64 18]),(93,[Y,.int .i64 3],.aE [.str [],.int .i64 18]),(93,[Y,.int .i64 4],.aE [.str [],.int .i64 18]),(93,[Y,.int .i64 5],.aE [.str [],.int .i64 18]),(93,[Y,.int .i64 6],.aE [.str [],.int .i64 18]),(93,[Y,.int .i64 7],.aE [.str [],.int .i64 18]),(93,[Y,.int .i64 8],.aE [.str [],.int .i64 18]),(93,[Y,.int .i64 9],.aE [.str [],.int .i64 0]),(93,[Y,.int .i64 10],.aE [.str [],.int .i64 0]),(93,[Y,.int .i64 11],.aE [.str [],.int .i64 0]),(93,[Y,.int .i64 12],.aE [.str [],.int .i64 0]),(93,[Y,.int .i64 13],.aE [.str [],.int .i64 0]),(93,[Y,.int .i64 14],.aE [.str [],.int .i64 0]),(93,[Y,.int .i64 15],.aE [.str [],.int .i64 0]),(93,[Y,.int .i64 16],.aE [.str [],.int .i64 0]),(93,[Y,.int .i64 17],.aE [.str [],.int .i64 0]),(93,[Y,.int .i64 18],.aE [.str [],.int .i64 0]),(93,[Y,.int .i64 19],.aE [.str [],.int .i64 0]),(93,[Y,.int .i64 20],.aE [.str [],.int .i64 0]),(93,[Y,.int .i64 21],.aE [.str [],.int .i64 0]),(93,[Y,.int .i64 22],.aE [.str [],.int .i64 0]),(93,[Y,.int .i64 23],.aE [.str [],.int .i64 0]),(93,[Y,.int .i64 24],.aE [.str [],.int .i64 18]),(93,[Y,.int .i64 25],.aE [.str [],.int .i64 18]),(93,[Y,.int .i64 26],.aE [.str [],.int .i64 18]),(93,[Y,.int .i64 27],.aE [.str [],.int .i64 18]),(93,[Y,.int .i64 28],.aE [.str [],.int .i64 18]),(93,[Y,.int .i64 29],.aE [.str [],.int .i64 18]),(93,[Y,.int .i64 30],.aE [.str [],.int .i64 18]),(93,[Y,.int .i64 31],.aE [.str [],.int .i64 18])]++k2
theorem lM:Hk.nD k3:=Hk.Ac (l:=[(93,[Y,.int .i64 0],.aE [.str [],.int .i64 18]),(93,[Y,.int .i64 1],.aE [.str [],.int .i64 18]),(93,[Y,.int .i64 2],.aE [.str [],.int .i64 18]),(93,[Y,.int .i64 3],.aE [.str [],.int .i64 18]),(93,[Y,.int .i64 4],.aE [.str [],.int .i64 18]),(93,[Y,.int .i64 5],.aE [.str [],.int .i64 18]),(93,[Y,.int .i64 6],.aE [.str [],.int .i64 18]),(93,[Y,.int .i64 7],.aE [.str [],.int .i64 18]),(93,[Y,.int .i64 8],.aE [.str [],.int .i64 18]),(93,[Y,.int .i64 9],.aE [.str [],.int .i64 0]),(93,[Y,.int .i64 10],.aE [.str [],.int .i64 0]),(93,[Y,.int .i64 11],.aE [.str [],.int .i64 0]),(93,[Y,.int .i64 12],.aE [.str [],.int .i64 0]),(93,[Y,.int .i64 13],.aE [.str [],.int .i64 0]),(93,[Y,.int .i64 14],.aE [.str [],.int .i64 0]),(93,[Y,.int .i64 15],.aE [.str [],.int .i64 0]),(93,[Y,.int .i64 16],.aE [.str [],.int .i64 0]),(93,[Y,.int .i64 17],.aE [.str [],.int .i64 0]),(93,[Y,.int .i64 18],.aE [.str [],.int .i64 0]),(93,[Y,.int .i64 19],.aE [.str [],.int .i64 0]),(93,[Y,.int .i64 20],.aE [.str [],.int .i64 0]),(93,[Y,.int .i64 21],.aE [.str [],.int .i64 0]),(93,[Y,.int .i64 22],.aE [.str [],.int .i64 0]),(93,[Y,.int .i64 23],.aE [.str [],.int .i64 0]),(93,[Y,.int .i64 24],.aE [.str [],.int .i64 18]),(93,[Y,.int .i64 25],.aE [.str [],.int .i64 18]),(93,[Y,.int .i64 26],.aE [.str [],.int .i64 18]),(93,[Y,.int .i64 27],.aE [.str [],.int .i64 18]),(93,[Y,.int .i64 28],.aE [.str [],.int .i64 18]),(93,[Y,.int .i64 29],.aE [.str [],.int .i64 18]),(93,[Y,.int .i64 30],.aE [.str [],.int .i64 18]),(93,[Y,.int .i64 31],.aE [.str [],.int .i64 18])]) ⟨y0,y1,y2,y3,y4,y5,y6,y7,y8,y9,y10,y11,y12,y13,y14,y15,y16,y17,y18,y19,y20,y21,y22,y23,y24,y25,y26,y27,y28,y29,y30,y31,trivial⟩ fx
end lW
namespace lW
theorem z0:al prog 44 [Y,.int .i64 9,.str [99]] (.bool false):=Hk.dv k3 lM k_
theorem z1:al prog 44 [Y,.int .i64 10,.str [99]] (.bool false):=Hk.dv k3 lM k_
theorem z2:al prog 44 [Y,.int .i64 11,.str [99]] (.bool false):=Hk.dv k3 lM k_
theorem z3:al prog 44 [Y,.int .i64 12,.str [99]] (.bool false):=Hk.dv k3 lM k_
theorem z4:al prog 44 [Y,.int .i64 13,.str [99]] (.bool false):=Hk.dv k3 lM k_
theorem z5:al prog 44 [Y,.int .i64 14,.str [99]] (.bool false):=Hk.dv k3 lM k_
theorem z6:al prog 44 [Y,.int .i64 15,.str [99]] (.bool false):=Hk.dv k3 lM k_
theorem z7:al prog 44 [Y,.int .i64 16,.str [99]] (.bool true):=Hk.dv k3 lM k_
theorem z8:al prog 44 [Y,.int .i64 17,.str [99]] (.bool false):=Hk.dv k3 lM k_
theorem z9:al prog 44 [Y,.int .i64 18,.str [99]] (.bool false):=Hk.dv k3 lM k_
theorem z10:al prog 44 [Y,.int .i64 19,.str [99]] (.bool false):=Hk.dv k3 lM k_
theorem z11:al prog 44 [Y,.int .i64 20,.str [99]] (.bool false):=Hk.dv k3 lM k_
theorem z12:al prog 44 [Y,.int .i64 21,.str [99]] (.bool false):=Hk.dv k3 lM k_
theorem z13:al prog 44 [Y,.int .i64 22,.str [99]] (.bool false):=Hk.dv k3 lM k_
theorem z14:al prog 44 [Y,.int .i64 23,.str [99]] (.bool false):=Hk.dv k3 lM k_
def k4:List (bb×List PV×PV):=[(44,[Y,.int .i64 9,.str [99]],.bool false),(44,[Y,.int .i64 10,.str [99]],.bool false),(44,[Y,.int .i64 11,.str [99]],.bool false),(44,[Y,.int .i64 12,.str [99]],.bool false),(44,[Y,.int .i64 13,.str [99]],.bool false),(44,[Y,.int .i64 14,.str [99]],.bool false),(44,[Y,.int .i64 15,.str [99]],.bool false),(44,[Y,.int .i64 16,.str [99]],.bool true),(44,[Y,.int .i64 17,.str [99]],.bool false),(44,[Y,.int .i64 18,.str [99]],.bool false),(44,[Y,.int .i64 19,.str [99]],.bool false),(44,[Y,.int .i64 20,.str [99]],.bool false),(44,[Y,.int .i64 21,.str [99]],.bool false),(44,[Y,.int .i64 22,.str [99]],.bool false),(44,[Y,.int .i64 23,.str [99]],.bool false)]++k3
theorem I8:Hk.nD k4:=Hk.Ac (l:=[(44,[Y,.int .i64 9,.str [99]],.bool false),(44,[Y,.int .i64 10,.str [99]],.bool false),(44,[Y,.int .i64 11,.str [99]],.bool false),(44,[Y,.int .i64 12,.str [99]],.bool false),(44,[Y,.int .i64 13,.str [99]],.bool false),(44,[Y,.int .i64 14,.str [99]],.bool false),(44,[Y,.int .i64 15,.str [99]],.bool false),(44,[Y,.int .i64 16,.str [99]],.bool true),(44,[Y,.int .i64 17,.str [99]],.bool false),(44,[Y,.int .i64 18,.str [99]],.bool false),(44,[Y,.int .i64 19,.str [99]],.bool false),(44,[Y,.int .i64 20,.str [99]],.bool false),(44,[Y,.int .i64 21,.str [99]],.bool false),(44,[Y,.int .i64 22,.str [99]],.bool false),(44,[Y,.int .i64 23,.str [99]],.bool false)]) ⟨z0,z1,z2,z3,z4,z5,z6,z7,z8,z9,z10,z11,z12,z13,z14,trivial⟩ lM
end lW
namespace lW
theorem w0:al prog 92 [Y,.st 108 [.str [97],.int .i64 0,.str [48],.str [49,47,50,48]]] (WR):=Hk.dv k2 fx k_
end lW
namespace lW
theorem w1:al prog 92 [Y,.st 108 [.str [99],.int .i64 1,.str [57,47,50,48],.str [49,49,47,50,48]]] (WR):=Hk.dv k2 fx k_
end lW
namespace lW
theorem o:al prog 34 [X] (.aE [.dD false [.int .i64 9,.int .i64 10,.int .i64 11,.int .i64 12,.int .i64 13,.int .i64 14,.int .i64 15,.int .i64 16,.int .i64 17,.int .i64 18,.int .i64 19,.int .i64 20,.int .i64 21,.int .i64 22,.int .i64 23],.int .i64 0]):=Hk.dv k4 I8 k_
theorem p:al prog 7 [X,.str [99]] (.aE [.dD false [.int .i64 16],.int .i64 0]):=Hk.dv k4 I8 k_
def k5:List (bb×List PV×PV):=[(34,[X],.aE [.dD false [.int .i64 9,.int .i64 10,.int .i64 11,.int .i64 12,.int .i64 13,.int .i64 14,.int .i64 15,.int .i64 16,.int .i64 17,.int .i64 18,.int .i64 19,.int .i64 20,.int .i64 21,.int .i64 22,.int .i64 23],.int .i64 0]),(7,[X,.str [99]],.aE [.dD false [.int .i64 16],.int .i64 0]),(92,[Y,.st 108 [.str [97],.int .i64 0,.str [48],.str [49,47,50,48]]],WR),(92,[Y,.st 108 [.str [99],.int .i64 1,.str [57,47,50,48],.str [49,49,47,50,48]]],WR)]++k4
theorem aOm:Hk.nD k5:=Hk.Ac (l:=[(34,[X],.aE [.dD false [.int .i64 9,.int .i64 10,.int .i64 11,.int .i64 12,.int .i64 13,.int .i64 14,.int .i64 15,.int .i64 16,.int .i64 17,.int .i64 18,.int .i64 19,.int .i64 20,.int .i64 21,.int .i64 22,.int .i64 23],.int .i64 0]),(7,[X,.str [99]],.aE [.dD false [.int .i64 16],.int .i64 0]),(92,[Y,.st 108 [.str [97],.int .i64 0,.str [48],.str [49,47,50,48]]],WR),(92,[Y,.st 108 [.str [99],.int .i64 1,.str [57,47,50,48],.str [49,49,47,50,48]]],WR)]) ⟨o,p,w0,w1,trivial⟩ I8
end lW
theorem awC:al prog 6 [] (.bool true):=Hk.dv lW.k5 lW.aOm k_
namespace lW
end lW
def lx(t:ah)(name:List Nat):Int:=idxFrom (fun o=>decide (o.name=name)) t.aK 0
theorem Fs{α:Type}(f:α->Bool):∀(l:List α)(n:Nat),idxFrom f l n= -1\/∃i,idxFrom f l n=((n+i:Nat):Int)/\i<l.length
 |[],n=>.inl rfl
 |a::l,n=>by
  rw[idxFrom];cases f a
  ·rcases Fs f l (n+1)with h|⟨i,b,c⟩
   ·exact .inl (by simpa using h)
   ·exact .inr ⟨i+1,by simp[b];omega,by simp;omega⟩
  ·exact .inr ⟨0,s_,s_⟩
theorem X5(t:ah)(name:List Nat):lx t name= -1\/∃i:Nat,lx t name=i/\i<t.aK.length:=by
 rcases Fs (fun o:du=>decide (o.name=name)) t.aK 0 with h|⟨i,a,b⟩
 ·exact .inl h
 ·exact .inr ⟨i,by rw[lx,a];simp,b⟩
theorem Yf(t:ah)(name:List Nat)(h:t.aK.length<=1000000):al prog 11 [cA t,.str name] (.int .i64 (lx t name)):=by
 refine gA_ nf func11 mix ?_;rw[lx];simp[f11,aa];refine lp (α:=Nat) (fun i=>⟨[(5,.p (.int .i64 i)),(2,.ptr 0 []),(1,.p (.str name))],[.box false (.p (cA t))]⟩) (fun i=>i<=t.aK.length/\idxFrom (fun o=>decide (o.name=name)) t.aK 0=idxFrom (fun o=>decide (o.name=name)) (t.aK.drop i) i) (fun i=>t.aK.length-i) 0 s_ ?_;rintro i ⟨k1,k2⟩;have b:=b8 (i:=i) o_
 by_cases hi:i<t.aK.length
 ·have a:=ah.jo hi;rw[b5 hi,idxFrom,ah.EL hi]at k2
  by_cases hk:(t.pk i).name=name
  ·simp[hk]at k2;simp[hi,a,hk,k2,aa]
  ·simp[hk]at k2;simp[hi,a,hk,b,aa];exact rd (i+1) ⟨hi,k2⟩
 ·have:i=t.aK.length:=by omega
  subst this;simp[idxFrom]at k2;simp[k2,aa]
theorem YE(name:List Nat)(o:du):c8 prog 99 [.box false (.p (.str name))] [.p (fo o),.ptr 0 []] [.box false (.p (.str name))] (.p (.bool (decide (o.name=name)))):=by
 refine gz nf (i_ func99) mix (by simp[f99]) ?_
 by_cases h:o.name=name
 ·simp[f99,aa,h];exact dh.og s_ s_ s_ s_ s_
 ·simp[f99,aa,h];exact dh.og s_ s_ s_ s_ s_
theorem LH(name:List Nat)(l:List du)(h:l.length<=1000000):
 c8 prog 98 [.box false (.p (.str name))] [.p (.seq (l.map fo)),.func 99 [] [.ptr 0 []]] [.box false (.p (.str name))] (.p (.int .i64 (idxFrom (fun o=>decide (o.name=name)) l 0))):=by
 refine gz nf (i_ func98) mix (by simp[f98]) ?_;simp[f98];refine lp (α:=Nat) (fun i=>⟨[(8,.p (.int .i64 i)),(7,.p (.int .i64 l.length)),(1,.func 99 [] [.ptr 0 []]),(0,.p (.seq (l.map fo)))],[.box false (.p (.str name))]⟩) (fun i=>i<=l.length/\idxFrom (fun o=>decide (o.name=name)) l 0=idxFrom (fun o=>decide (o.name=name)) (l.drop i) i) (fun i=>l.length-i) 0 s_ ?_;rintro i ⟨k1,k2⟩;have a:=b8 (i:=i) o_
 by_cases hi:i<l.length
 ·rw[b5 hi,idxFrom]at k2;simp[hi];refine cf (YE name l[i]) [0] ?_
  by_cases hk:l[i].name=name
  ·simp[hk]at k2;simp[hk,k2,bu]
  ·simp[hk]at k2;simp[hk,a,bu];exact rd (i+1) ⟨hi,k2⟩
 ·have:i=l.length:=by omega
  subst this;simp[idxFrom]at k2;simp[k2]
theorem FO(t:ah)(name:List Nat)(i:Nat)(c:t.aK.length<=1000000)(h:lx t name=i)(hi:i<t.aK.length):al prog 41 [cB t,.str name] (.aE [fo (t.pk i),.bool true]):=by
 have k:=LH name t.aK c;rw[lx]at h;rw[h]at k;have b:=ah.jo hi;have a:¬(i:Int)<0:=o_
 refine gA_ nf func41 mix ?_;simp[f41,aa];refine cf k [1] ?_;simp[bu,sig,a,hi,b,aa]
theorem Mf(t:ah)(name:List Nat)(a:t.aK.length<=1000000)(h:lx t name= -1):al prog 41 [cB t,.str name] (.aE [fo ⟨[],0,[],[]⟩,.bool false]):=by
 have k:=LH name t.aK a;rw[lx]at h;rw[h]at k;refine gA_ nf func41 mix ?_;rw[fo];simp[f41,aa];refine cf k [1] ?_;simp[bu,sig,aa]
def NS.mul(s t:NS):NS:=⟨(s.a.mul t.a).add ((s.b.mul t.b).mul s.d),(s.a.mul t.b).add (t.a.mul s.b),s.d⟩
theorem Cc(s t:NS)(hs:dK 20000 s)(c:dK 20000 t):al prog 184 [ct s,ct t] (ct (s.mul t)):=by
 have k1:=fF s.a t.a (hs.1.mono d_) (c.1.mono d_);have k2:=fF s.b t.b (hs.2.1.mono d_) (c.2.1.mono d_);have k3:=fF (s.b.mul t.b) s.d ((eL hs.2.1 c.2.1).mono d_) (hs.2.2.mono d_);have k4:=pP (s.a.mul t.a) ((s.b.mul t.b).mul s.d) ((eL hs.1 c.1).mono d_) ((eL (eL hs.2.1 c.2.1) hs.2.2).mono d_);have k5:=fF s.a t.b (hs.1.mono d_) (c.2.1.mono d_);have k6:=fF t.a s.b (c.1.mono d_) (hs.2.1.mono d_);have k7:=pP (s.a.mul t.b) (t.a.mul s.b) ((eL hs.1 c.2.1).mono d_) ((eL c.1 hs.2.1).mono d_);refine gA_ nf func184 mix ?_;rw[NS.mul,ct];simp(maxDischargeDepth:=99) [f184,aa,e2 k1,e2 k2,e2 k3,e2 k4,e2 k5,e2 k6,e2 k7]
def EJ(s:NS):Prop:=aL 600 s.a.q/\aL 600 s.b.q/\aL 1200 s.d.q
theorem Lj(s t:NS)(hs:EJ s)(f:EJ t):al prog 187 [ct s,ct t] (.int .i64 (dU s.q t.q)):=by
 have g:=BQ hs.1 f.1;have e:dK 1300 ⟨s.a.sub t.a,s.b,s.d⟩:=⟨g.mono d_,hs.2.1.mono d_,hs.2.2.mono d_⟩
 have k1:=nW s.a t.a (hs.1.mono d_) (f.1.mono d_);have k2:=oO ⟨s.a.sub t.a,s.b,s.d⟩ ⟨e.1.mono d_,e.2.1.mono d_,e.2.2.mono d_⟩;have k3:=mC t.b;have k4:=mC t.d;have k5:=Cc ⟨s.a.sub t.a,s.b,s.d⟩ ⟨s.a.sub t.a,s.b,s.d⟩ ⟨e.1.mono d_,e.2.1.mono d_,e.2.2.mono d_⟩ ⟨e.1.mono d_,e.2.1.mono d_,e.2.2.mono d_⟩;have k6:=fF t.b t.b (f.2.1.mono d_) (f.2.1.mono d_);have k7:=fF (t.b.mul t.b) t.d ((eL f.2.1 f.2.1).mono d_) (f.2.2.mono d_);have j:=eL (eL f.2.1 f.2.1) f.2.2;have k8:=pN ((t.b.mul t.b).mul t.d) (j.mono d_);have k9:=s8 ((t.b.mul t.b).mul t.d).neg s.d;have h:dK 4900 (NS.mul ⟨s.a.sub t.a,s.b,s.d⟩ ⟨s.a.sub t.a,s.b,s.d⟩):=⟨(ru (eL g g) (eL (eL hs.2.1 hs.2.1) hs.2.2)).mono d_,(ru (eL g hs.2.1) (eL g hs.2.1)).mono d_,hs.2.2.mono d_⟩
 have i:dK 2500 (NS.plain ((t.b.mul t.b).mul t.d).neg s.d):=⟨(sZ j).mono d_,aL.mono (show aL 20 (NF.int 0).q from ke d_ d_) d_,hs.2.2.mono d_⟩
 have jk:=s9 (NS.mul ⟨s.a.sub t.a,s.b,s.d⟩ ⟨s.a.sub t.a,s.b,s.d⟩) (NS.plain ((t.b.mul t.b).mul t.d).neg s.d) ⟨h.1.mono d_,h.2.1.mono d_,h.2.2.mono d_⟩ ⟨i.1.mono d_,i.2.1.mono d_,i.2.2.mono d_⟩;have nw:=oO ((NS.mul ⟨s.a.sub t.a,s.b,s.d⟩ ⟨s.a.sub t.a,s.b,s.d⟩).add (NS.plain ((t.b.mul t.b).mul t.d).neg s.d)) ⟨(ru h.1 i.1).mono d_,(ru h.2.1 i.2.1).mono d_,hs.2.2.mono d_⟩;have q1:NS.q ⟨s.a.sub t.a,s.b,s.d⟩=⟨s.q.a-t.q.a,s.q.b,s.q.d⟩:=by simp only[NS.q,NF.dJ]
 have p:((NS.mul ⟨s.a.sub t.a,s.b,s.d⟩ ⟨s.a.sub t.a,s.b,s.d⟩).add (NS.plain ((t.b.mul t.b).mul t.d).neg s.d)).q=⟨(s.q.a-t.q.a)*(s.q.a-t.q.a)+s.q.b*s.q.b*s.q.d-t.q.b*t.q.b*t.q.d,2*((s.q.a-t.q.a)*s.q.b),s.q.d⟩:=by
  have e1:(s.a.sub t.a).q=s.a.q-t.a.q:=NF.dJ _ _;have hx:((NS.mul ⟨s.a.sub t.a,s.b,s.d⟩ ⟨s.a.sub t.a,s.b,s.d⟩).add (NS.plain ((t.b.mul t.b).mul t.d).neg s.d)).q=⟨(s.a.sub t.a).q*(s.a.sub t.a).q+s.b.q*s.b.q*s.d.q+-(t.b.q*t.b.q*t.d.q),((s.a.sub t.a).q*s.b.q+(s.a.sub t.a).q*s.b.q)+((0:Int):Rat),s.d.q⟩:=rfl;rw[hx,e1];have hz:((0:Int):Rat)=0:=rfl;rw[hz];show S3.mk _ _ _=S3.mk _ _ _;congr 1
  ·show _=(s.a.q-t.a.q)*(s.a.q-t.a.q)+s.b.q*s.b.q*s.d.q-t.b.q*t.b.q*t.d.q
   grind
  ·show _=2*((s.a.q-t.a.q)*s.b.q)
   grind
 rw[q1]at k2;rw[p]at nw;rw[show(if t.b.q<0 then(-1:Int)else if t.b.q=0 then 0 else 1)=bE t.q.b from rfl]at k3;rw[show(if t.d.q<0 then(-1:Int)else if t.d.q=0 then 0 else 1)=bE t.q.d from rfl]at k4;have k:=yj ⟨s.q.a-t.q.a,s.q.b,s.q.d⟩;have l:=mI (BI (mF t.q.b)) (mF t.q.d);have u:=yj ⟨(s.q.a-t.q.a)*(s.q.a-t.q.a)+s.q.b*s.q.b*s.q.d-t.q.b*t.q.b*t.q.d,2*((s.q.a-t.q.a)*s.q.b),s.q.d⟩;have n:-(bE t.q.b*bE t.q.d)= -bE t.q.b*bE t.q.d:=by rw[bf]
 rw[dU,n];clear q1 p g j h i e n;generalize bW ⟨(s.q.a-t.q.a)*(s.q.a-t.q.a)+s.q.b*s.q.b*s.q.d-t.q.b*t.q.b*t.q.d,2*((s.q.a-t.q.a)*s.q.b),s.q.d⟩=o,bW ⟨s.q.a-t.q.a,s.q.b,s.q.d⟩=x at*;have w0:=mH (BI (mF t.q.b));generalize bE t.q.b=y1,bE t.q.d=y2 at*;have w1:=mH l;have r:=mH (mI k l);have w:=mH (mI k u);generalize v:(NS.mul ⟨s.a.sub t.a,s.b,s.d⟩ ⟨s.a.sub t.a,s.b,s.d⟩).add (NS.plain ((t.b.mul t.b).mul t.d).neg s.d)=m1,NS.mul ⟨s.a.sub t.a,s.b,s.d⟩ ⟨s.a.sub t.a,s.b,s.d⟩=m2,NS.plain ((t.b.mul t.b).mul t.d).neg s.d=m3 at*;clear v;have m:ct ⟨s.a.sub t.a,s.b,s.d⟩=.st 151 [eF (s.a.sub t.a),eF s.b,eF s.d]:=rfl;rw[m]at k2 k5;clear m;generalize s.a.sub t.a=z,((t.b.mul t.b).mul t.d).neg=A,(t.b.mul t.b).mul t.d=B,t.b.mul t.b=C at*;refine gA_ nf func187 mix ?_;simp[f187,aa,-ba];rw[ba];simp[-ba,aa];rw[ba];simp[-ba,aa];refine e2 k1 ?_;simp[aa,-ba];refine⟨r_,?_⟩;rw[ba];simp[aa,-ba];refine e1 k2 ?_;simp[aa,-ba];refine e1 k3 ?_;simp[aa,-ba,w0];refine e1 k4 ?_;simp[aa,w0,w1];generalize -y1*y2=y at*;rw[jB]
 by_cases c2:x=0
 ·subst c2;simp[aa]
 by_cases c:0<=x*y
 ·rw[if_pos c,if_neg c2];simp[c,c2,r,aa]
 ·rw[if_neg c];simp(maxDischargeDepth:=99) [c,c2,r,aa,w,e2 k5,e2 k6,e2 k7,e1 k8,e2 k9,e2 jk,e1 nw]
structure n8(t b:ah)(ar:List Nat)(i:Nat):Prop where
 eZ:gd t=0
 tl:t.cs.length<=1000000
 L:vY b
 Bh:∀s∈b.aj,aS 30 (vP s.pt)
 ci:hasB b ar i
 ap:∀k,k<b.aj.length->k≠i->¬gF t.aC (vP (b.sp k).pt) (vP (b.sp i).pt)<0
 nn:∀k,k<b.aj.length->(b.sp k).name≠[]
theorem n8.at{t b:ah}{ar:List Nat}{i:Nat}(h:n8 t b ar i){k:Nat}(hk:k<b.aj.length):eV (vP (b.sp k).pt)=et (b.sp k).pt/\aS 30 (vP (b.sp k).pt):=by
 have m:=bv (ah.dY hk);exact⟨(wP (h.L.sp _ m).2).1,h.Bh _ m⟩
theorem n8.name{t b:ah}{ar:List Nat}{i k:Nat}(h:n8 t b ar i)(hk:k<b.aj.length):(b.sp k).name=ar↔k=i:=by
 obtain⟨_,d,f⟩:=h.ci;have j:=wF h.L hk;have c:(b.sp i).name=ar:=by
  have:=List.find?_some (by rw[eJ]at f;exact f);simpa using this
 constructor
 ·intro e;rcases dl k i with g|g|g
  ·have:=h.L.ne i d;rw[eJ,b1]at this;have a:=this (b.sp k) (bv (i:=k) (by rw[bI,if_pos g];exact ah.dY hk));simp[e,c]at a
  ·exact g
  ·have:=h.L.ne k hk;rw[eJ,b1]at this;have a:=this (b.sp i) (bv (i:=i) (by rw[bI,if_pos g];exact ah.dY d));simp[e,c]at a
 ·intro e;rw[e];exact c
def bF(b:ah)(i k:Nat):V2:=(vP (b.sp k).pt).sub (vP (b.sp i).pt)
def fS(t b:ah)(i:Nat)(d:V2)(k:Nat):S3:=uW t.aC (bF b i k) d
def jr(t b:ah)(i:Nat)(d:V2)(e:Rat)(k:Nat):Bool:=decide (k≠i)&&(tU t.aC (bF b i k) d&&decide (dU (fS t b i d k) ⟨e,0,0⟩<0))
def zw(t b:ah)(i:Nat)(d:V2)(e:Rat)(o:Option Nat)(k:Nat):Option Nat:=
 if jr t b i d e k then(match o with
  |none=>some k
  |some j=>if dU (fS t b i d k) (fS t b i d j)<0 then some k else some j)else o
def gH(t b:ah)(i:Nat)(d:V2)(e:Rat)(m:Nat):Option Nat:=(b4 m).foldl (zw t b i d e) none
theorem Fx(t b:ah)(i:Nat)(d:V2)(e:Rat)(m:Nat):gH t b i d e (m+1)=zw t b i d e (gH t b i d e m) m:=by
 rw[gH,b3,b2];rfl
theorem zg(t b:ah)(i:Nat)(d:V2)(e:Rat):∀m j,gH t b i d e m=some j->j<m/\jr t b i d e j=true
 |0,j,h=>by simp[gH]at h
 |m+1,j,h=>by
  rw[Fx,zw.eq_def]at h;have c:=zg t b i d e m
  by_cases hc:jr t b i d e m=true
  ·rw[if_pos hc]at h;cases a:gH t b i d e m with
   |none=>rw[a]at h;simp only[eb]at h;subst h;exact⟨o_,hc⟩
   |some f=>
    rw[a]at h;have:=c f a;dsimp only at h
    split at h
    ·simp only[eb]at h;subst h;exact⟨o_,hc⟩
    ·simp only[eb]at h;subst h;exact⟨o_,this.2⟩
  ·rw[if_neg hc]at h;have:=c j h;exact⟨o_,this.2⟩
def lU(t b:ah)(i:Nat)(d:bS)(k:Nat):NM:=.of (.width t.aC) (.from (b.sp i).pt) (.from d) (.from (b.sp k).pt)
theorem B2(t b:ah)(i:Nat)(d:bS)(k:Nat):(lU t b i d k).dm.q=fS t b i (vP d) k:=by
 have a:((NV.from (b.sp k).pt).sub (.from (b.sp i).pt)).q=bF b i k:=by rw[NV.dJ];rfl
 rw[NM.dm,NS.q,fS,uW];show S3.mk ((((NV.from (b.sp k).pt).sub (.from (b.sp i).pt)).dot (.from d)).q/((NV.from d).dot (.from d)).q) (-(((NV.from d).dot (.from d)).q)⁻¹) (NM.of (.width t.aC) (.from (b.sp i).pt) (.from d) (.from (b.sp k).pt)).root.q=_;rw[NV.fU,NV.fU,a,NM.of];congr 1;dsimp only;rw[NF.dJ];show((((NV.from (b.sp k).pt).sub (.from (b.sp i).pt)).dot (.from d)).q*(((NV.from (b.sp k).pt).sub (.from (b.sp i).pt)).dot (.from d)).q)-(((NV.from d).dot (.from d)).q*(NF.sub (((NV.from (b.sp k).pt).sub (.from (b.sp i).pt)).dot ((NV.from (b.sp k).pt).sub (.from (b.sp i).pt))) (.width t.aC)).q)=_;rw[NF.dJ,NV.fU,NV.fU,NV.fU,a];rfl
theorem Yb{t b:ah}{ar:List Nat}{i k:Nat}{d:bS}(h:n8 t b ar i)(hk:k<b.aj.length)(f:k≠i):Bb (.width t.aC) (.from (b.sp i).pt) (.from d) (.from (b.sp k).pt)=tU t.aC (bF b i k) (vP d):=by
 have a:((NV.from (b.sp k).pt).sub (.from (b.sp i).pt)).q=bF b i k:=by rw[NV.dJ];rfl
 have c:=h.ap k hk f;have g:(NM.of (.width t.aC) (.from (b.sp i).pt) (.from d) (.from (b.sp k).pt)).root.q=bU t.aC (bF b i k) (vP d):=by
  have:=B2 t b i d k;rw[NS.q,fS,uW]at this;injection this
 rw[Bb,g,NV.fU,NV.fU,a,tU];have:0<=cr ((bF b i k).dot (bF b i k)) (NF.width t.aC).q:=by
  have e:gF t.aC (vP (b.sp k).pt) (vP (b.sp i).pt)=cr ((bF b i k).dot (bF b i k)) (bH t.aC):=rfl;rw[e]at c;rw[yW];omega
 rw[decide_eq_true this,a8];rfl
def JA:PV:=.st 100 [.st 98 [.int .i64 0,.aM],.st 98 [.int .i64 0,.aM]]
def WB:PV:=.st 121 [JA,JA]
def zM:PV:=.st 147 [WB,WB,JA]
@[simp] theorem aQi:aP zM=.agg 147:=rfl
@[simp high] theorem aWr:cO prog 148=some zM:=k_
def ny(b:ah):Option Nat->List Nat
 |none=>[]
 |some j=>(b.sp j).name
noncomputable def pW(t b:ah)(i:Nat)(d:bS):Option Nat->PV
 |none=>zM
 |some j=>pT (lU t b i d j)
@[simp] theorem aUV(t b:ah)(i:Nat)(d:bS)(o:Option Nat):aP (pW t b i d o)=.agg 147:=by
 cases o
 ·exact aQi
 ·exact Ma _
structure VQ(t b:ah)(i:Nat)(d:bS)(x:XD)(e:Rat):Prop where
 ex:∃m0 l,t.fK (.from (b.sp i).pt) (rh d) t.cs.length=m0::l/\iT m0 l=x
 nz:x.s.norm.q=0->x.s.a.q≠0
 ok:me x
 dm:(x.s.under x.g).q=⟨e,0,0⟩
 sz:aL 600 e
theorem LW{s:NS}{a b c:Rat}(h:s.q=⟨a,b,c⟩)(g:aL 600 a)(i:aL 600 b)(hc:aL 1200 c):EJ s:=by
 rw[NS.q]at h;injection h with d e f
 exact⟨by rw[d];exact g,by rw[e];exact i,by rw[f];exact hc⟩
theorem iD{k:Nat}(h:1<=k):aL k (0:Rat):=(show aL 1 (0:Rat)from⟨d_,d_⟩).mono h
theorem IL{t b:ah}{ar:List Nat}{i k:Nat}{d:bS}(h:n8 t b ar i)(hk:k<b.aj.length)(c:aS 30 (vP d))(hz:(vP d).dot (vP d)≠0):aL 600 (fS t b i (vP d) k).a/\aL 600 (fS t b i (vP d) k).b/\aL 1200 (fS t b i (vP d) k).d:=by
 obtain⟨r0,r1⟩:=lG h.eZ;have e:aS 61 (bF b i k):=eB (h.at hk).2 (h.at h.ci.2.1).2;have f:=cR e c;have g:=cR c c;have j:=cR e e;have l:=my (r:=t.aC) o_ o_;exact⟨(iq f g).mono d_,(j0 (lL g)).mono d_,(gl (bh f f) (bh g (gl j l))).mono d_⟩
theorem Me(t b:ah)(ar:List Nat)(i:Nat)(d:bS)(x:XD)(e:Rat)(h:n8 t b ar i)(v:aS 30 (vP d))(hz:(vP d).dot (vP d)≠0)(u:VQ t b i d x e):
 al prog 102 [jV t b,.str ar,bQ (.from d)] (.aE [.str (ny b (gH t b i (vP d) e b.aj.length)),pW t b i d (gH t b i (vP d) e b.aj.length),.bool (gH t b i (vP d) e b.aj.length).isSome]):=by
 obtain⟨r0,r1⟩:=lG h.eZ;obtain⟨_,_,hn,_⟩:=mn h.eZ;have ae:=h.L.sl;have K:=(h.at h.ci.2.1).2;have S:=h.ci.2.2;obtain⟨m0,l,Z,ab⟩:=u.ex;have k1:=J5 (.from d);have k2:=ID t (.from (b.sp i).pt) (rh d) h.tl hn (by rw[fe];exact K.mono d_) ⟨by show aS 900 (NV.from d).q;rw[fe];exact v.mono d_,⟨iD d_,iD d_⟩,iD d_⟩ m0 l Z;rw[ab]at k2;have k3:=Cb x u.ok u.nz;have M:EJ (x.s.under x.g):=LW u.dm u.sz (iD d_) (iD d_);have N:=u.dm;have kd:rh d=⟨.from d,⟨.int 0,.int 0⟩,.int 0⟩:=rfl;rw[<-kd]at k1;have a:=fun k(hk:k<b.aj.length)=>aKQ (.width t.aC) (.from (b.sp i).pt) (.from d) (.from (b.sp k).pt) ((my o_ o_).mono d_) (by rw[fe];exact K.mono d_) (by rw[fe];exact v.mono d_) (by rw[fe];exact(h.at hk).2.mono d_);have P:=fun k(hk:k<b.aj.length)=>aKG (lU t b i d k) (by
  have ad:aS 61 (bF b i k):=eB (h.at hk).2 K;have R:(lU t b i d k).w.q=bF b i k:=by show((NV.from (b.sp k).pt).sub (.from (b.sp i).pt)).q=_;rw[NV.dJ];rfl
  rw[R];exact ad.mono d_) (by show aS 500 (NV.from d).q;rw[fe];exact v.mono d_) hz
 have J:=fun k(hk:k<b.aj.length)=>LW (s:=(lU t b i d k).dm) (B2 t b i d k) (IL h hk v hz).1 (IL h hk v hz).2.1 (IL h hk v hz).2.2;have n:=fun k(hk:k<b.aj.length)=>Lj (lU t b i d k).dm (x.s.under x.g) (J k hk) M;have E:=fun k j(hk:k<b.aj.length)(H:j<b.aj.length)=>Lj (lU t b i d k).dm (lU t b i d j).dm (J k hk) (J j H);simp only[B2,N]at n E;have U:=fun k(hk:k<b.aj.length)(V:k≠i)=>Yb (d:=d) h hk V;have X:∀k,NM.of (.width t.aC) (.from (b.sp i).pt) (.from d) (.from (b.sp k).pt)=lU t b i d k:=fun _=>rfl;simp only[X]at a;clear M N kd;generalize x.s.under x.g=ac,rh d=ai at*;refine gA_ nf func102 mix ?_;simp[f102,S,aa];refine e1_ k1 ?_;simp[aa];refine e3_ k2 ?_;simp[aa];refine⟨r_,?_⟩;refine c1_ k3 ?_;simp[aa];refine lp (α:=Nat) (fun m=>⟨[(33,.p (.int .i64 m)),(32,.p (.int .i64 b.aj.length)),(31,.p (.seq (b.aj.map bP))),(13,.ptr 6 []),(12,.p (.str (ny b (gH t b i (vP d) e m)))),(11,.ptr 5 []),(9,.ptr 3 []),(7,.ptr 2 []),(5,.ptr 1 []),(3,.ptr 0 []),(1,.p (.str ar))],
  [.box false (.p (jV t b)),.box false (.p (bQ (.from d))),.box false (.p zM),.box false (.p (bQ (.from (b.sp i).pt))),.hole,.box false (.p (ct ac)),.box false (.p (pW t b i d (gH t b i (vP d) e m)))]⟩) (fun m=>m<=b.aj.length) (fun m=>b.aj.length-m) 0 s_ ?_ (he:=by simp[gH,ny]) (hh:=by simp[gH,pW])
 rintro m m1
 by_cases hm:m<b.aj.length
 case neg=>
  have:m=b.aj.length:=o_
  subst this;have W:∀j,gH t b i (vP d) e b.aj.length=some j->(b.sp j).name≠[]:=fun j H=>h.nn j (zg _ _ _ _ _ _ _ H).1;generalize gH t b i (vP d) e b.aj.length=o at*;cases o with
  |none=>simp[ny,aa]
  |some j=>
   have:=W j rfl;simp[ny,this,aa]
 have r:=ah.dY hm;have A:=b8 (i:=m) o_;have hs:=Fx t b i (vP d) e m;have T:=zg t b i (vP d) e m;have y:=wF h.L hm;have O:=h.name hm;have a:=a m hm;have B:=P m hm;have n:=n m hm;rw[zw.eq_def]at hs
 by_cases hi:m=i
 ·have hc:jr t b i (vP d) e m=false:=by rw[jr,decide_eq_false (by simpa using hi)];rfl
  rw[hc,if_neg d_]at hs;have f:(b.sp m).name=ar:=O.2 hi;generalize Bb (.width t.aC) (.from (b.sp i).pt) (.from d) (.from (b.sp m).pt)=ag at*;simp[hm,r,y,aa];refine c4_ a ?_;simp[f,A,aa];exact rd (m+1) hm (he:=by simp[hs]) (hh:=by simp[hs])
 have f:¬(b.sp m).name=ar:=fun h=>hi (O.1 h);rw[U m hm hi]at a;cases C:tU t.aC (bF b i m) (vP d)
 ·have hc:jr t b i (vP d) e m=false:=by rw[jr,C];simp
  rw[hc,if_neg d_]at hs;rw[C]at a;simp[hm,r,y,aa];refine c4_ a ?_;simp[f,A,aa];exact rd (m+1) hm (he:=by simp[hs]) (hh:=by simp[hs])
 rw[C]at a
 by_cases Y:dU (fS t b i (vP d) m) ⟨e,0,0⟩<0
 case neg=>
  have hc:jr t b i (vP d) e m=false:=by rw[jr,C];simp;intro _;omega
  have D:0<=dU (fS t b i (vP d) m) ⟨e,0,0⟩:=o_
  rw[hc,if_neg d_]at hs;generalize dU (fS t b i (vP d) m) ⟨e,0,0⟩=z at*;simp[hm,r,y,aa];refine c4_ a ?_;simp[f,aa];refine e1_ B ?_;simp[aa];refine e2_ n ?_;simp[D,A,aa];exact rd (m+1) hm (he:=by simp[hs]) (hh:=by simp[hs])
 have hc:jr t b i (vP d) e m=true:=by rw[jr,C,decide_eq_true Y];simp[hi]
 have D:¬0<=dU (fS t b i (vP d) m) ⟨e,0,0⟩:=o_
 rw[hc,if_pos rfl]at hs;cases G:gH t b i (vP d) e m with
 |none=>
  rw[G]at hs;dsimp only at hs;generalize dU (fS t b i (vP d) m) ⟨e,0,0⟩=z at*;simp[hm,r,y,ny,aa];refine c4_ a ?_;simp[f,aa];refine e1_ B ?_;simp[aa];refine e2_ n ?_;simp[D,A,aa];exact rd (m+1) hm (he:=by simp[hs,ny]) (hh:=by simp[hs,pW])
 |some j=>
  obtain⟨af,_⟩:=T j G;have I:j<b.aj.length:=o_
  have c:=h.nn j I;have Q:=P j I;have E:=E m j hm I;rw[G]at hs;dsimp only at hs;generalize dU (fS t b i (vP d) m) ⟨e,0,0⟩=z at*
  by_cases F:dU (fS t b i (vP d) m) (fS t b i (vP d) j)<0
  ·rw[if_pos F]at hs;generalize dU (fS t b i (vP d) m) (fS t b i (vP d) j)=z2 at*;simp[hm,r,y,ny,pW,aa];refine c4_ a ?_;simp[f,aa];refine e1_ B ?_;simp[aa];refine e2_ n ?_;simp[D,c,aa];refine e1_ B ?_;simp[c,aa];refine e1_ Q ?_;simp[c,aa];refine e2_ E ?_;simp[F,c,A,aa];exact rd (m+1) hm (he:=by simp[hs,ny]) (hh:=by simp[hs,pW])
  ·rw[if_neg F]at hs;generalize dU (fS t b i (vP d) m) (fS t b i (vP d) j)=z2 at*;simp[hm,r,y,ny,pW,aa];refine c4_ a ?_;simp[f,aa];refine e1_ B ?_;simp[aa];refine e2_ n ?_;simp[D,c,aa];refine e1_ B ?_;simp[c,aa];refine e1_ Q ?_;simp[c,aa];refine e2_ E ?_;simp[F,c,A,aa];exact rd (m+1) hm (he:=by simp[hs,ny]) (hh:=by simp[hs,pW])
def Bx(t b:ah)(ar:List Nat)(d:bS):Int:=if gh t b≠0 then gh t b else if eJ b.aj ar=none then 10 else gV d
theorem X4{t b:ah}{ar:List Nat}{d:bS}(h:Bx t b ar d=0):gh t b=0/\eJ b.aj ar≠none/\gV d=0:=by
 rw[Bx]at h
 by_cases a:gh t b=0
 case neg=>rw[if_pos a]at h;exact absurd h a
 rw[if_neg (by simp[a])]at h
 by_cases c:eJ b.aj ar=none
 ·rw[if_pos c]at h;omega
 rw[if_neg c]at h;exact⟨a,c,h⟩
structure yn(t b:ah)(ar:List Nat)(d:bS)(i:Nat)(x:XD)(e:Rat):Prop where
 C:n8 t b ar i
 dk:aS 30 (vP d)
 nz:(vP d).dot (vP d)≠0
 E:VQ t b i d x e
 ef:∃k:Int,t.fW (vP (b.sp i).pt) (vP d) t.cs.length=(k,e)
theorem YY(r:Int)(a b:V2):gF r a b=gF r b a:=by rw[gF,gF,MV]
theorem aON{t b:ah}{ar:List Nat}(u:fu t)(n:im b)(h:gh t b=0)(hf:eJ b.aj ar≠none)(o:∀s∈b.aj,aS 30 (vP s.pt)):∃i,n8 t b ar i:=by
 obtain⟨c,m,_⟩:=Ce n h;rcases zb b ar with⟨i,hi⟩|⟨_,e⟩
 case inr=>exact absurd e hf
 rw[gh,if_neg (by simp[c]),uF]at h
 by_cases d:24<b.aj.length
 ·rw[if_pos d]at h;omega
 rw[if_neg d]at h;have f:=rk.1 h;have l:∀i,i<b.aj.length->iN t (b.aj.take i) (b.sp i)=0:=fun i hi=>by
  have:=f i hi
  rwa [iC,ah.dY hi]at this
 have a:∀k,k<b.aj.length->(b.sp k).name≠[]/\∀j,j<k->¬gF t.aC (vP (b.sp j).pt) (vP (b.sp k).pt)<0:=fun k hk=>by
  have:=l k hk;rw[iN]at this
  split at this
  ·omega
  rename_i g1
  split at this
  ·omega
  split at this
  ·contradiction
  split at this
  ·omega
  split at this
  ·omega
  rename_i g2;refine⟨fun e=>g1 (by rw[e];rfl),fun j p q=>g2 (cx.2 ⟨b.sp j,?_,decide_eq_true q⟩)⟩;exact bv (i:=j) (by rw[bI,if_pos p];exact ah.dY o_)
 refine⟨i,c,u.cl,m,o,hi,fun k hk r=>?_,fun k hk=>(a k hk).1⟩;rcases Nat.lt_or_gt_of_ne r with g|g
 ·exact(a i hi.2.1).2 k g
 ·rw[YY];exact(a k hk).2 i g
theorem LI(t:ah)(p:bS)(d:NV)(i:Nat)(h:t.dT (d.q) i≠0):((t.bD (.from p) (bK d) i).s.under (t.bD (.from p) (bK d) i).g).q=⟨t.fL (vP p) (d.q) i,0,0⟩:=by
 have a:=aLW t p d i h;have hn:=B0 t p d i;have c:¬(t.bD (.from p) (bK d) i).s.norm.q=0:=by
  rw[hn];intro e;rcases ee.1 e with e|e<;>exact h e
 have hs:(t.bD (.from p) (bK d) i).s.b.q=0:=congrArg S3.b (wL t d i);have f:(t.bD (.from p) (bK d) i).s.d.q=0:=congrArg S3.d (wL t d i);generalize t.bD (.from p) (bK d) i=x at*;rw[NS.under,if_neg c]at a⊢;rw[NS.q];dsimp only at a⊢;rw[a,f];congr 1;show -(x.g.q*x.s.b.q)/x.s.norm.q=0;rw[hs,eP,fd,ec,eq]
theorem YG(t:ah)(p d:bS)(i:Nat)(h:t.dT (vP d) i≠0):((t.bD (.from p) (rh d) i).s.under (t.bD (.from p) (rh d) i).g).q=⟨t.fL (vP p) (vP d) i,0,0⟩:=LI t p (.from d) i h
theorem aAD{t b:ah}{ar:List Nat}{d:bS}(g:fu t)(u:im b)(h:Bx t b ar d=0)(w:∀s∈b.aj,aS 30 (vP s.pt))(f:aS 30 (vP d)):∃i x e,yn t b ar d i x e:=by
 obtain⟨o,p,r⟩:=X4 h;obtain⟨i,c⟩:=aON g u o p w;obtain⟨B,D,hn,hc⟩:=mn c.eZ;have hz:=aLD r;have v:¬((vP d).x=0/\(vP d).y=0):=fun⟨a,b⟩=>hz (by rw[V2.dot,a,b];decide+kernel);obtain⟨j,l,m,z,A⟩:=aLT t (b.sp i).pt d B hc v;have k:t.dT (vP d) j≠0:=fun e=>by rw[e]at m;exact absurd m d_
 have n:=(c.at c.ci.2.1).2;have C:=(Fg hn (n.mono (show 30<=90 by decide)) (f.mono (show 30<=90 by decide)) l).2.2;refine⟨i,_,t.fL (vP (b.sp i).pt) (vP d) j,c,f,hz,⟨z,fun e=>?_,?_,YG t _ d j k,C.mono d_⟩,⟨j,A⟩⟩
 ·rw[aOK]at e;rcases ee.1 e with e|e<;>exact absurd e k
 ·exact yT g.cl hn (by rw[fe];exact n.mono d_) ⟨by show aS 900 (NV.from d).q;rw[fe];exact f.mono d_,⟨iD d_,iD d_⟩,iD d_⟩ l
theorem Ln{d:bS}(h:gV d=0):cm d.x=0/\cm d.y=0:=kY (Au h).1
def iJ:Option Nat->Int
 |none=>-1
 |some j=>j
def oC(t b:ah)(i:Nat)(d:V2):Option Nat->PV
 |none=>vI
 |some j=>eS (fS t b i d j)
@[simp] theorem aU3(t b:ah)(i:Nat)(d:V2)(o:Option Nat):aP (oC t b i d o)=.agg 65:=by
 cases o<;>rfl
@[simp] theorem aU8:aP vI=.agg 65:=rfl
theorem zf(a:Rat):al prog 110 [.str (aN a)] (eS ⟨a,0,0⟩):=by
 refine gA_ nf func110 mix ?_;simp[f110,pS,pI,aa]
theorem aLV{t b:ah}{ar:List Nat}{i k:Nat}{d:V2}(h:n8 t b ar i)(hk:k<b.aj.length)(a:aS 30 d)(hz:d.dot d≠0):yA (fS t b i d k):=by
 obtain⟨r0,r1⟩:=lG h.eZ;have c:aS 61 (bF b i k):=eB (h.at hk).2 (h.at h.ci.2.1).2;have e:=cR c a;have f:=cR a a;have g:=cR c c;have j:=my (r:=t.aC) o_ o_;exact⟨(iq e f).mono d_,(j0 (lL f)).mono d_,(gl (bh e e) (bh f (gl g j))).mono d_⟩
theorem Lr(t b:ah)(ar:List Nat)(i:Nat)(d:V2)(O:Int)(e:Rat)(h:n8 t b ar i)(v:aS 30 d)(hz:d.dot d≠0)(hx:t.fW (vP (b.sp i).pt) d t.cs.length=(O,e))(I:aL 600 e):
 al prog 54 [cA t,.seq (b.aj.map bP),.int .i64 i,eV d] (.aE [.int .i64 (iJ (gH t b i d e b.aj.length)),oC t b i d (gH t b i d e b.aj.length)]):=by
 obtain⟨r0,r1⟩:=lG h.eZ;obtain⟨_,_,hn,_⟩:=mn h.eZ;have P:=h.L.sl;have hi:=h.ci.2.1;have l:=ah.dY hi;obtain⟨E,D⟩:=h.at hi;have k1:=Mi t (vP (b.sp i).pt) d h.tl hn (D.mono d_) (v.mono d_);rw[hx,E]at k1;have c:=fun k(hk:k<b.aj.length)=>lj (vP (b.sp k).pt) (vP (b.sp i).pt) ((h.at hk).2.mono d_) (D.mono d_);have H:∀k,(vP (b.sp k).pt).sub (vP (b.sp i).pt)=bF b i k:=fun _=>rfl;simp only[H]at c;have F:∀k,k<b.aj.length->aS 61 (bF b i k):=fun k hk=>eB (h.at hk).2 D;have f:=fun k(hk:k<b.aj.length)=>aAU t.aC (bF b i k) d o_ o_ ((F k hk).mono d_) (v.mono d_);have g:=fun k(hk:k<b.aj.length)=>ara t.aC (bF b i k) d o_ o_ ((F k hk).mono d_) (v.mono d_) hz;have G:∀k,uW t.aC (bF b i k) d=fS t b i d k:=fun _=>rfl;simp only[G]at g;have kE:=zf e;have C:=fun k(hk:k<b.aj.length)=>aLV h hk v hz;have r:=fun k(hk:k<b.aj.length)=>E4 (fS t b i d k) ⟨e,0,0⟩ (C k hk) ⟨I.mono d_,iD d_,iD d_⟩;have y:=fun k j(hk:k<b.aj.length)(J:j<b.aj.length)=>E4 (fS t b i d k) (fS t b i d j) (C k hk) (C j J);refine gA_ nf func54 mix ?_;simp[f54,hi,l,aa];refine e3 k1 ?_;simp[aa];refine lp (α:=Nat) (fun m=>⟨[(14,.p (.int .i64 m)),(13,.ptr 3 []),(12,.p (.int .i64 (iJ (gH t b i d e m)))),(11,.p (.str (aN e))),(9,.ptr 2 []),(7,.ptr 1 []),(4,.ptr 0 []),(2,.p (.int .i64 i)),(1,.p (.seq (b.aj.map bP)))],
  [.box false (.p (cA t)),.box false (.p (eV d)),.box false (.p vI),.box false (.p (oC t b i d (gH t b i d e m)))]⟩) (fun m=>m<=b.aj.length) (fun m=>b.aj.length-m) 0 s_ ?_ (he:=by simp[gH,iJ]) (hh:=by simp[gH,oC,vI])
 rintro m m1
 by_cases hm:m<b.aj.length
 case neg=>
  have:m=b.aj.length:=o_
  subst this;generalize gH t b i d e b.aj.length=o at*;simp[aa]
 have n:=ah.dY hm;obtain⟨em,R⟩:=h.at hm;have q:=b8 (i:=m) o_;have hs:=Fx t b i d e m;have M:=zg t b i d e m;have c:=c m hm;have f:=f m hm;have g:=g m hm;have r:=r m hm;rw[em,E]at c;rw[zw.eq_def]at hs
 by_cases B:m=i
 ·have hc:jr t b i d e m=false:=by rw[jr,decide_eq_false (by simpa using B)];rfl
  rw[hc,if_neg d_]at hs;subst B;generalize bF b m m=W at*;simp[hm,n,aa];refine e2 c ?_;simp[aa];refine⟨r_,?_⟩;simp[q,aa];exact rd (m+1) hm (he:=by simp[hs]) (hh:=by simp[hs])
 have a:¬(m:Int)=i:=o_
 cases s:tU t.aC (bF b i m) d
 ·have hc:jr t b i d e m=false:=by rw[jr,s];simp
  rw[hc,if_neg d_]at hs;rw[s]at f;simp[hm,n,hi,l,aa];refine e2 c ?_;simp[a,aa];refine⟨r_,?_⟩;refine c3_ f ?_;simp[a,q,aa];exact rd (m+1) hm (he:=by simp[hs]) (hh:=by simp[hs])
 rw[s]at f
 by_cases N:dU (fS t b i d m) ⟨e,0,0⟩<0
 case neg=>
  have hc:jr t b i d e m=false:=by rw[jr,s];simp;intro _;omega
  have u:0<=dU (fS t b i d m) ⟨e,0,0⟩:=o_
  rw[hc,if_neg d_]at hs;generalize dU (fS t b i d m) ⟨e,0,0⟩=z at*;simp[hm,n,hi,l,aa];refine e2 c ?_;simp[a,aa];refine⟨r_,?_⟩;refine c3_ f ?_;simp[a,aa];refine c3_ g ?_;simp[aa];refine e1_ kE ?_;simp[aa];refine e2_ r ?_;simp[u,q,aa];exact rd (m+1) hm (he:=by simp[hs]) (hh:=by simp[hs])
 have hc:jr t b i d e m=true:=by rw[jr,s,decide_eq_true N];simp[B]
 have u:¬0<=dU (fS t b i d m) ⟨e,0,0⟩:=o_
 rw[hc,if_pos rfl]at hs;cases A:gH t b i d e m with
 |none=>
  rw[A]at hs;dsimp only at hs;generalize dU (fS t b i d m) ⟨e,0,0⟩=z at*;simp[hm,n,hi,l,iJ,aa];refine e2 c ?_;simp[a,aa];refine⟨r_,?_⟩;refine c3_ f ?_;simp[a,aa];refine c3_ g ?_;simp[aa];refine e1_ kE ?_;simp[aa];refine e2_ r ?_;simp[u,q,aa];exact rd (m+1) hm (he:=by simp[hs,iJ]) (hh:=by simp[hs,oC])
 |some j=>
  obtain⟨Q,_⟩:=M j A;have K:j<b.aj.length:=o_
  have w:¬(j:Int)<0:=o_
  have y:=y m j hm K;rw[A]at hs;dsimp only at hs;generalize dU (fS t b i d m) ⟨e,0,0⟩=z at*
  by_cases x:dU (fS t b i d m) (fS t b i d j)<0
  ·rw[if_pos x]at hs;generalize dU (fS t b i d m) (fS t b i d j)=z2 at*;simp[hm,n,hi,l,iJ,oC,aa];refine e2 c ?_;simp[a,aa];refine⟨r_,?_⟩;refine c3_ f ?_;simp[a,aa];refine c3_ g ?_;simp[aa];refine e1_ kE ?_;simp[aa];refine e2_ r ?_;simp[u,w,aa];refine c2_ y ?_;simp[x,w,q,aa];exact rd (m+1) hm (he:=by simp[hs,iJ]) (hh:=by simp[hs,oC])
  ·rw[if_neg x]at hs;generalize dU (fS t b i d m) (fS t b i d j)=z2 at*;simp[hm,n,hi,l,iJ,oC,aa];refine e2 c ?_;simp[a,aa];refine⟨r_,?_⟩;refine c3_ f ?_;simp[a,aa];refine c3_ g ?_;simp[aa];refine e1_ kE ?_;simp[aa];refine e2_ r ?_;simp[u,w,aa];refine c2_ y ?_;simp[x,w,q,aa];exact rd (m+1) hm (he:=by simp[hs,iJ]) (hh:=by simp[hs,oC])
theorem Yj{t b:ah}{ar aB:List Nat}{n:Nat}(hs:rE t b ar aB n=true)(h:gh t b=0):∀s∈b.aj,aS 30 (vP s.pt):=by
 rw[rE,h]at hs;simp only[a1,a7,decide_eq_true_eq]at hs;obtain⟨_,_,_,_,hs⟩:=hs;have hf:qS t b n 9=true:=by
  rcases hs with hs|hs
  ·exact absurd rfl hs
  ·exact hs
 rw[qS]at hf;simp only[a1,cy]at hf;obtain⟨_,_,_,_,_,_,_,hf⟩:=hf;intro s h;have:=hf s h;rw[qU,a1]at this;exact⟨tV this.1,tV this.2⟩
theorem iZ{a b:Rat}(h:0<=a)(k:0<=b):0<=a*b:=Rat.mul_nonneg h k
theorem ql{a b:Rat}(h:0<a)(k:0<b):0<a*b:=Rat.mul_pos h k
theorem Wj{x y:Rat}(h:0<=y)(k:y<x):y*y<x*x:=by
 have:=ql (a:=x-y) (b:=x+y) (by grind) (by grind)
 grind
theorem FQ{x y:Rat}(b:0<=y)(h:x*x<=y*y):x<=y/\-y<=x:=by
 constructor
 ·by_cases a:x<=y
  ·exact a
  ·have:=Wj b (by grind:y<x);grind
 ·by_cases a:-y<=x
  ·exact a
  ·have:=Wj b (by grind:y< -x);grind
theorem za{p q r s:Rat}(c:0<=p)(d:p<=q)(e:0<=r)(f:r<=s):p*r<=q*s:=by
 have a:=iZ (a:=q-p) (b:=s) (by grind) (by grind);have b:=iZ (a:=p) (b:=s-r) c (by grind)
 grind
theorem Cf{x y k:Rat}(hk:0<k)(h:x*k<=y*k):x<=y:=by
 by_cases c:x<=y
 ·exact c
 ·have:=ql (a:=x-y) (b:=k) (by grind) hk;grind
def Pd(d a b:Rat):Prop:=(0<=a/\b*b*d<=a*a)\/(0<=b/\a*a<=b*b*d)
theorem T9{d a b a' b':Rat}(c:0<d)(e:0<=a)(f:b*b*d<=a*a)(g:0<=a')(h:b'*b'*d<=a'*a'):b*b'*d<=a*a'/\-(a*a')<=b*b'*d:=by
 have i:=iZ (sq_nonneg b) (ew c);have j:=iZ (sq_nonneg b') (ew c);have:=za i f j h;exact FQ (iZ e g) (by grind)
theorem N4{d a b a' b':Rat}(h:0<d)(c:0<=b)(e:a*a<=b*b*d)(f:0<=b')(g:a'*a'<=b'*b'*d):a*a'<=b*b'*d/\-(b*b'*d)<=a*a':=by
 have:=za (sq_nonneg a) e (sq_nonneg a') g;exact FQ (iZ (iZ c f) (ew h)) (by grind)
theorem N5{d a b a' b':Rat}(c:0<d)(e:0<=a)(f:b*b*d<=a*a)(g:0<=b')(h:a'*a'<=b'*b'*d):a'*b<=a*b'/\-(a*b')<=a'*b:=by
 have i:=iZ (sq_nonneg b) (ew c);have:=za (sq_nonneg a') h i f;exact FQ (iZ e g) (Cf c (by grind))
theorem Pd.N6{d a b a' b':Rat}(h:0<d)(e:0<=a)(l:b*b*d<=a*a)(f:0<=b')(m:a'*a'<=b'*b'*d):Pd d (a+a') (b+b'):=by
 obtain⟨c1,c2⟩:=N5 h e l f m
 by_cases g:0<=a+a'
 ·by_cases n:0<=b+b'
  ·by_cases o:(b+b')*(b+b')*d<=(a+a')*(a+a')
   ·exact .inl ⟨g,o⟩
   ·exact .inr ⟨n,by grind⟩
  ·refine .inl ⟨g,?_⟩;have g1:a*(-b-b')<=(a+a')* -b:=by grind
   have g2:0<=a*(-b-b'):=iZ e (by grind);have g3:=za g2 g1 g2 g1;have i:=iZ (a:=a*a-b*b*d) (b:=(-b-b')*(-b-b')) (by grind) (sq_nonneg _);exact Cf (k:=b*b) (by have:=ql (a:=-b) (b:=-b) (by grind) (by grind);grind) (by grind)
 ·have g1:b'*(-a'-a)<=(b+b')* -a':=by grind
  have g2:0<=b'*(-a'-a):=iZ f (by grind);have g3:=za g2 g1 g2 g1;have c:0< -a':=by grind
  have j:0<=b+b':=Cf c (by grind);refine .inr ⟨j,?_⟩;have i:=iZ (a:=b'*b'*d-a'*a') (b:=(-a'-a)*(-a'-a)) (by grind) (sq_nonneg _);have p:=iZ (a:=((b+b')* -a')*((b+b')* -a')-(b'*(-a'-a))*(b'*(-a'-a))) (b:=d) (by grind) (ew h);exact Cf (k:=a'*a') (by have:=ql c c;grind) (by grind)
theorem Pd.add{d a b a' b':Rat}(i:0<d)(h:Pd d a b)(j:Pd d a' b'):Pd d (a+a') (b+b'):=by
 rcases h with⟨c,e⟩|⟨c,e⟩<;>rcases j with⟨f,g⟩|⟨f,g⟩
 ·have:=T9 i c e f g;exact .inl ⟨by grind,by grind⟩
 ·exact Pd.N6 i c e f g
 ·have:=Pd.N6 i f g c e;rw[fl a,fl b];exact this
 ·have:=N4 i c e f g;exact .inr ⟨by grind,by grind⟩
theorem Pd.VK{d a b a' b':Rat}(h:0<d)(c:0<=a)(e:b*b*d<=a*a)(f:0<=b')(g:a'*a'<=b'*b'*d):Pd d (a*a'+b*b'*d) (a*b'+a'*b):=by
 have:=N5 h c e f g;have:=iZ (a:=a*a-b*b*d) (b:=b'*b'*d-a'*a') (by grind) (by grind);exact .inr ⟨by grind,by grind⟩
theorem Pd.mul{d a b a' b':Rat}(i:0<d)(h:Pd d a b)(j:Pd d a' b'):Pd d (a*a'+b*b'*d) (a*b'+a'*b):=by
 rcases h with⟨c,e⟩|⟨c,e⟩<;>rcases j with⟨f,g⟩|⟨f,g⟩
 ·have:=T9 i c e f g;have:=iZ (a:=a*a-b*b*d) (b:=a'*a'-b'*b'*d) (by grind) (by grind);exact .inl ⟨by grind,by grind⟩
 ·exact Pd.VK i c e f g
 ·have:=Pd.VK i f g c e
  rwa [show a'*a+b'*b*d=a*a'+b*b'*d by grind,show a'*b+a*b'=a*b'+a'*b by grind]at this
 ·have:=N4 i c e f g;have:=iZ (a:=b*b*d-a*a) (b:=b'*b'*d-a'*a') (by grind) (by grind);exact .inl ⟨by grind,by grind⟩
theorem Pd.total(d a b:Rat):Pd d a b\/Pd d (-a) (-b):=by
 by_cases h:b*b*d<=a*a
 ·by_cases c:0<=a
  ·exact .inl (.inl ⟨c,h⟩)
  ·exact .inr (.inl ⟨by grind,by grind⟩)
 ·by_cases e:0<=b
  ·exact .inl (.inr ⟨e,by grind⟩)
  ·exact .inr (.inr ⟨by grind,by grind⟩)
theorem Pd.zero(d:Rat):Pd d 0 0:=.inl ⟨d_,by grind⟩
theorem zi(a:Rat):bE (-a)= -bE a:=by
 by_cases h:a<0
 ·rw[ri h,pR (by grind)];rfl
 ·by_cases b:a=0
  ·subst b;decide
  ·rw[pR (by grind:0<a),ri (by grind)]
theorem Mb(a b d:Rat):bW ⟨-a,-b,d⟩= -bW ⟨a,b,d⟩:=by
 rw[bW,bW];dsimp only;rw[zi,zi,show -a* -a=a*a by grind,show -b* -b=b*b by grind];generalize bE a=x;generalize bE b=y;generalize bE d=z;generalize cr (a*a) (b*b*d)=o;rw[jB,jB,show -x*(-y*z)=x*(y*z)by grind]
 by_cases h:0<=x*(y*z)
 ·rw[if_pos h,if_pos h]
  by_cases hx:x=0
  ·subst hx;simp[bf]
  ·rw[if_neg hx,if_neg o_]
 ·rw[if_neg h,if_neg h,bf]
theorem FA{x y:Rat}:0<=cr x y↔y<=x:=by
 rw[cr]
 split
 ·constructor
  ·intro h;omega
  ·intro h;grind
 ·split
  ·constructor
   ·intro _;grind
   ·intro _;omega
  ·constructor
   ·intro _;grind
   ·intro _;omega
theorem Fz{x y:Rat}:cr x y<=0↔x<=y:=by
 rw[cr]
 split
 ·constructor
  ·intro _;grind
  ·intro _;omega
 ·split
  ·constructor
   ·intro _;grind
   ·intro _;omega
  ·constructor
   ·intro h;omega
   ·intro h;grind
theorem uE{a b d:Rat}(g:0<d):0<=bW ⟨a,b,d⟩↔Pd d a b:=by
 rw[bW];dsimp only;rw[pR g,bl,jB,Pd];have f:b≠0->0<b*b*d:=fun h=>by
  have j:=sq_nonneg b;have l:b*b≠0:=fun e=>by rcases ee.1 e with e|e<;>exact h e
  exact ql (by grind) g
 have c:a≠0->0<a*a:=fun h=>by
  have:=sq_nonneg a;have:a*a≠0:=fun e=>by rcases ee.1 e with e|e<;>exact h e
  grind
 rcases(by grind:a<0\/a=0\/0<a)with h|h|h<;>rcases(by grind:b<0\/b=0\/0<b)with k|k|k
 ·rw[ri h,ri k,if_pos d_,if_neg d_];exact⟨fun e=>absurd e d_,fun e=>by grind⟩
 ·subst k;rw[ri h,rC,if_pos d_,if_neg d_];exact⟨fun e=>absurd e d_,fun e=>by have:=c (by grind);grind⟩
 ·rw[ri h,pR k,if_neg d_];constructor
  ·intro e;exact .inr ⟨by grind,Fz.1 o_⟩
  ·intro e;have:=(Fz (x:=a*a) (y:=b*b*d)).2 (by grind);omega
 ·subst h;rw[rC,ri k,if_pos d_,if_pos rfl];exact⟨fun e=>absurd e d_,fun e=>by have:=f (by grind);grind⟩
 ·subst h;subst k;rw[rC,if_pos d_,if_pos rfl];exact⟨fun _=>.inl ⟨d_,by grind⟩,fun _=>by decide⟩
 ·subst h;rw[rC,pR k,if_pos d_,if_pos rfl];exact⟨fun _=>.inr ⟨by grind,by have:=f (by grind);grind⟩,fun _=>by decide⟩
 ·rw[pR h,ri k,if_neg d_];constructor
  ·intro e;exact .inl ⟨by grind,FA.1 o_⟩
  ·intro e;have:=(FA (x:=a*a) (y:=b*b*d)).2 (by grind);omega
 ·subst k;rw[pR h,rC,if_pos d_,if_neg d_];exact⟨fun _=>.inl ⟨by grind,by have:=c (by grind);grind⟩,fun _=>by decide⟩
 ·rw[pR h,pR k,if_pos d_,if_neg d_];refine⟨fun _=>?_,fun _=>by decide⟩
  by_cases i:b*b*d<=a*a
  ·exact .inl ⟨by grind,i⟩
  ·exact .inr ⟨by grind,by grind⟩
theorem aP8{a b d:Rat}(c:0<d):bW ⟨a,b,d⟩<0↔¬Pd d a b:=by rw[<-uE c];omega
theorem uD{a b d:Rat}(c:0<d):bW ⟨a,b,d⟩<=0↔Pd d (-a) (-b):=by rw[<-uE c,Mb];omega
theorem zj{a b d:Rat}(c:0<d):0<bW ⟨a,b,d⟩↔¬Pd d (-a) (-b):=by rw[<-uD c];omega
def Nl(d a b:Rat):Prop:=Pd d a b/\Pd d (-a) (-b)
theorem Nl.zero(d:Rat):Nl d 0 0:=⟨Pd.zero d,by have:=Pd.zero d;simpa using this⟩
theorem Nl.mul{d a b:Rat}(e:0<d)(h:Nl d a b)(p q:Rat):Nl d (p*a+q*b*d) (p*b+a*q):=by
 rcases Pd.total d p q with c|c
 ·refine⟨Pd.mul e c h.1,?_⟩;have:=Pd.mul e c h.2;rw[show p* -a+q* -b*d= -(p*a+q*b*d)by grind,show p* -b+-a*q= -(p*b+a*q)by grind]at this;exact this
 ·constructor
  ·have:=Pd.mul e c h.2;rw[show -p* -a+-q* -b*d=p*a+q*b*d by grind,show -p* -b+-a* -q=p*b+a*q by grind]at this;exact this
  ·have:=Pd.mul e c h.1;rw[show -p*a+-q*b*d= -(p*a+q*b*d)by grind,show -p*b+a* -q= -(p*b+a*q)by grind]at this;exact this
theorem Nl.neg{d a b:Rat}(h:Nl d a b):Nl d (-a) (-b):=⟨h.2,by rw[eM,eM];exact h.1⟩
theorem Nl.add{d a b a' b':Rat}(e:0<d)(h:Nl d a b)(c:Nl d a' b'):Nl d (a+a') (b+b'):=
 ⟨Pd.add e h.1 c.1,by have:=Pd.add e h.2 c.2;rw[show -(a+a')= -a+-a' by grind,show -(b+b')= -b+-b' by grind];exact this⟩
theorem Pd.nl{d a b a' b':Rat}(c:0<d)(h:Nl d (a'-a) (b'-b)):Pd d a b↔Pd d a' b':=by
 constructor
 ·intro k;have:=Pd.add c k h.1
  rwa [show a+(a'-a)=a' by grind,show b+(b'-b)=b' by grind]at this
 ·intro k;have:=Pd.add c k h.2
  rwa [show a'+-(a'-a)=a by grind,show b'+-(b'-b)=b by grind]at this
def fQ(g:Rat)(x:S3):S3:=if x.a*x.a-x.b*x.b*x.d=0 then⟨g/(2*x.a),0,x.d⟩else⟨g*x.a/(x.a*x.a-x.b*x.b*x.d),-(g*x.b/(x.a*x.a-x.b*x.b*x.d)),x.d⟩
theorem yZ{d p q:Rat}(hx:¬Pd d (-p) (-q))(hn:p*p-q*q*d=0):0<p/\0<q:=by
 constructor
 ·by_cases h:0<p
  ·exact h
  ·exact absurd (.inl ⟨by grind,by grind⟩) hx
 ·by_cases h:0<q
  ·exact h
  ·exact absurd (.inr ⟨by grind,by grind⟩) hx
theorem Fy{d p q:Rat}(hx:¬Pd d (-p) (-q))(f:0<d)(g:Rat):Nl d (p*(fQ g ⟨p,q,d⟩).a+q*(fQ g ⟨p,q,d⟩).b*d-g) (p*(fQ g ⟨p,q,d⟩).b+(fQ g ⟨p,q,d⟩).a*q):=by
 rw[fQ];dsimp only
 by_cases hn:p*p-q*q*d=0
 ·rw[if_pos hn];obtain⟨j,hq⟩:=yZ hx hn;have e:Nl d (-p) q:=⟨.inr ⟨by grind,by grind⟩,.inl ⟨by grind,by grind⟩⟩
  have c:=Nl.mul f e (g/(2*p)) 0;dsimp only;have h:g/(2*p)*(2*p)=g:=er (by grind);generalize g/(2*p)=u at*
  rwa [show u* -p+0*q*d=p*u+q*0*d-g by grind,show u*q+-p*0=p*0+u*q by grind]at c
 ·rw[if_neg hn];dsimp only;have hi:=ed _ hn;rw[ec,ec];generalize (p*p-q*q*d)⁻¹=i at*;have c:=Nl.zero d;refine cast ?_ c;congr 1<;>grind
theorem aO7{d p q:Rat}(hx:¬Pd d (-p) (-q)):Pd d (fQ 1 ⟨p,q,d⟩).a (fQ 1 ⟨p,q,d⟩).b:=by
 rw[fQ];dsimp only
 by_cases hn:p*p-q*q*d=0
 ·rw[if_pos hn];obtain⟨c,hq⟩:=yZ hx hn;dsimp only;have j:1/(2*p)*(2*p)=1:=er (by grind);generalize 1/(2*p)=u at*;have:0<=u:=by
   by_cases h:0<=u
   ·exact h
   ·have:=ql (a:=-u) (b:=p) (by grind) c;grind
  exact .inl ⟨this,by have:=sq_nonneg u;grind⟩
 ·rw[if_neg hn];dsimp only;have hi:=ed _ hn;rw[ec,ec];generalize (p*p-q*q*d)⁻¹=i at*;have f:=sq_nonneg i
  by_cases g:0<=p*p-q*q*d
  ·have c:0<=p:=by
    by_cases h:0<=p
    ·exact h
    ·exact absurd (.inl ⟨by grind,by grind⟩) hx
   have e:0<=i:=by
    by_cases h:0<=i
    ·exact h
    ·have:=ql (a:=p*p-q*q*d) (b:=-i) (by grind) (by grind);grind
   have:=iZ g f;have:=iZ c e;exact .inl ⟨by grind,by grind⟩
  ·have hq:0<=q:=by
    by_cases h:0<=q
    ·exact h
    ·exact absurd (.inr ⟨by grind,by grind⟩) hx
   have e:i<=0:=by
    by_cases h:i<=0
    ·exact h
    ·have:=ql (a:=-(p*p-q*q*d)) (b:=i) (by grind) (by grind);grind
   have:=iZ (a:=-(p*p-q*q*d)) (b:=i*i) (by grind) f;have:=iZ (a:=q) (b:=-i) hq (by grind);exact .inr ⟨by grind,by grind⟩
theorem Pd.Cd{d p q:Rat}(f:0<d)(hx:¬Pd d (-p) (-q))(w v:Rat):Pd d w v↔Pd d (p*w+q*v*d) (p*v+w*q):=by
 have l:Pd d p q:=(Pd.total d p q).resolve_right hx;constructor
 ·intro h;exact Pd.mul f l h
 ·intro h;have g:=Pd.mul f (aO7 hx) h;have i:=Fy hx f 1;generalize (fQ 1 ⟨p,q,d⟩).a=c,(fQ 1 ⟨p,q,d⟩).b=e at*;have j:=Nl.mul f i w v;refine(Pd.nl f ?_).1 g;have k:=j.neg
  rwa [show -(w*(p*c+q*e*d-1)+v*(p*e+c*q)*d)=w-(c*(p*w+q*v*d)+e*(p*v+w*q)*d)by grind,
   show -(w*(p*e+c*q)+(p*c+q*e*d-1)*v)=v-(c*(p*v+w*q)+(p*w+q*v*d)*e)by grind]at k
theorem YA{d p q e f:Rat}(c:0<d)(hx:¬Pd d (-p) (-q))(i:¬Pd d (-e) (-f))(g h:Rat):
 Pd d ((fQ g ⟨p,q,d⟩).a-(fQ h ⟨e,f,d⟩).a) ((fQ g ⟨p,q,d⟩).b-(fQ h ⟨e,f,d⟩).b)↔Pd d (e*g-p*h) (f*g-q*h):=by
 have k:=Fy hx c g;have l:=Fy i c h;generalize (fQ g ⟨p,q,d⟩).a=m,(fQ g ⟨p,q,d⟩).b=n,(fQ h ⟨e,f,d⟩).a=o,(fQ h ⟨e,f,d⟩).b=r at*;rw[Pd.Cd c hx,Pd.Cd c i];refine Pd.nl c ?_;have j:=(Nl.add c (Nl.mul c k e f) (Nl.neg (Nl.mul c l p q))).neg;refine cast ?_ j;congr 1<;>grind
theorem aO6{d a b a' b':Rat}(c:0<d):dU ⟨a,b,d⟩ ⟨a',b',d⟩<0↔¬Pd d (a-a') (b-b'):=by
 rw[dU];dsimp only;rw[pR c,bl];have hY:-bE b'=bW ⟨0,-b',d⟩:=by
  rw[bW];dsimp only;rw[rC,pR c,zi,jB,bp,if_pos d_,if_pos rfl,bl]
 rw[hY];generalize a-a'=e;have o:=yj ⟨e,b,d⟩;have y0:=yj ⟨0,-b',d⟩;have f:=uE (a:=e) (b:=b) c;have i:=uD (a:=e) (b:=b) c;have y1:=uE (a:=0) (b:=-b') c;have y2:=uD (a:=0) (b:=-b') c;have l:=uE (a:=e*e+b*b*d-b'*b'*d) (b:=2*(e*b)) c;have m:=uD (a:=e*e+b*b*d-b'*b'*d) (b:=2*(e*b)) c;rw[fd,eM]at y2;generalize bW ⟨e,b,d⟩=X,bW ⟨0,-b',d⟩=Y,bW ⟨e*e+b*b*d-b'*b'*d,2*(e*b),d⟩=O at*;have sum:Pd d e b->Pd d 0 (-b')->Pd d e (b-b'):=fun h k=>by
  have:=Pd.add c h k
  rwa [ej,<-ei]at this
 have g:Pd d e (b-b')->Pd d 0 b'->Pd d e b:=fun h k=>by
  have:=Pd.add c h k
  rwa [ej,Rat.sub_add_cancel]at this
 have n:Pd d e (b-b')->Pd d (-e) (-b)->Pd d 0 (-b'):=fun h k=>by
  have:=Pd.add c h k
  rwa [show e+-e=0 by grind,show b-b'+-b= -b' by grind]at this
 have up:X=1->Y= -1->(Pd d e (b-b')↔0<=O):=fun j hY=>by
  have hs:¬Pd d (-e) (-(b+b')):=fun h=>by
   have:=Pd.add c h (y2.1 o_);rw[show -e+0= -e by grind,show -(b+b')+b'= -b by grind]at this;have:=i.2 this;omega
  rw[Pd.Cd c hs,l,show e*e+(b+b')*(b-b')*d=e*e+b*b*d-b'*b'*d by grind,show e*(b-b')+e*(b+b')=2*(e*b)by grind]
 have dn:X= -1->Y=1->(Pd d e (b-b')↔O<=0):=fun j hY=>by
  have hs:¬Pd d (- -e) (- -(b+b')):=fun h=>by
   rw[eM,eM]at h;have:=Pd.add c h (y1.1 o_);rw[show e+0=e by grind,show b+b'+-b'=b by grind]at this;have:=f.2 this;omega
  rw[Pd.Cd c hs,m,show -e*e+-(b+b')*(b-b')*d= -(e*e+b*b*d-b'*b'*d)by grind,show -e*(b-b')+e* -(b+b')= -(2*(e*b))by grind]
 rw[jB];rcases o with rfl|rfl|rfl<;>rcases y0 with rfl|rfl|rfl
 ·rw[if_pos d_,if_neg d_];exact⟨fun _ h=>by have:=f.2 (g h (y2.1 d_));omega,fun _=>by decide⟩
 ·rw[if_pos d_,if_neg d_];exact⟨fun _ h=>by have:=f.2 (g h (y2.1 d_));omega,fun _=>by decide⟩
 ·rw[if_neg d_,dn rfl rfl];omega
 ·rw[if_pos d_,if_pos rfl];exact⟨fun _ h=>by have:=y1.2 (n h (i.1 d_));omega,fun _=>by decide⟩
 ·rw[if_pos d_,if_pos rfl];exact⟨fun h=>absurd h d_,fun h=>absurd (sum (f.1 d_) (y1.1 d_)) h⟩
 ·rw[if_pos d_,if_pos rfl];exact⟨fun h=>absurd h d_,fun h=>absurd (sum (f.1 d_) (y1.1 d_)) h⟩
 ·rw[if_neg d_,up rfl rfl];omega
 ·rw[if_pos d_,if_neg d_];exact⟨fun h=>absurd h d_,fun h=>absurd (sum (f.1 d_) (y1.1 d_)) h⟩
 ·rw[if_pos d_,if_neg d_];exact⟨fun h=>absurd h d_,fun h=>absurd (sum (f.1 d_) (y1.1 d_)) h⟩
def ez(t:ah)(A B:V2)(d:Rat)(i:Nat):S3:=⟨A.aX (t.bC i),B.aX (t.bC i),d⟩
def nt(t:ah)(p:V2)(i:Nat):Rat:=(t.bC i).aX (p.sub (c7 (t.at i)))
def eC(t:ah)(p A B:V2)(d:Rat)(i:Nat):S3:=fQ (nt t p i) (ez t A B d i)
def zx(t:ah)(p A B:V2)(d:Rat)(o:Option Nat)(k:Nat):Option Nat:=
 if bW (ez t A B d k)<=0 then o else match o with
  |none=>some k
  |some j=>if dU (eC t p A B d k) (eC t p A B d j)<0 then some k else some j
def jN(t:ah)(p A B:V2)(d:Rat)(m:Nat):Option Nat:=(b4 m).foldl (zx t p A B d) none
theorem Ft(t:ah)(p A B:V2)(d:Rat)(m:Nat):jN t p A B d (m+1)=zx t p A B d (jN t p A B d m) m:=by
 rw[jN,b3,b2];rfl
theorem LG(v w:V2):-(v.aX w)=w.aX v:=by simp only[V2.aX];grind
theorem B3(t:ah)(n:NB)(i:Nat):((n.aX (t.cJ i)).neg).q=ez t n.a.q n.b.q n.d.q i:=by
 have c:((n.aX (t.cJ i)).neg).a.q=n.a.q.aX (t.bC i):=by
  show -((t.cJ i).aX n.a).q=_;rw[NV.kK,ah.rl,LG]
 have e:((n.aX (t.cJ i)).neg).b.q=n.b.q.aX (t.bC i):=by
  show -((t.cJ i).aX n.b).q=_;rw[NV.kK,ah.rl,LG]
 rw[NS.q,c,e];rfl
theorem FK(t:ah)(p:NV)(n:NB)(i:Nat):(t.bD p n i).g.q=nt t p.q i:=by
 show((t.cJ i).aX (p.sub (di (t.at i)))).q=_;rw[NV.kK,NV.dJ,ah.rl];rfl
theorem aQ1(s:NS)(k:NF):(s.under k).q=fQ k.q s.q:=by
 have hn:s.norm.q=s.q.a*s.q.a-s.q.b*s.q.b*s.q.d:=NF.dJ _ _;rw[NS.under,fQ,<-hn]
 by_cases h:s.norm.q=0
 ·rw[if_pos h,if_pos h];show S3.mk (k.q/(s.a.q+s.a.q)) ((0:Int):Rat) s.d.q=S3.mk (k.q/(2*s.a.q)) 0 s.d.q;rw[show s.a.q+s.a.q=2*s.a.q by grind];rfl
 ·rw[if_neg h,if_neg h];show S3.mk (k.q*s.a.q/s.norm.q) (-(k.q*s.b.q)/s.norm.q) s.d.q=S3.mk (k.q*s.a.q/s.norm.q) (-(k.q*s.b.q/s.norm.q)) s.d.q;rw[ec (-(k.q*s.b.q)),Rat.neg_mul,<-ec]
theorem Lv(t:ah)(n:NB)(i:Nat):t.pos n i=decide (0<bW (ez t n.a.q n.b.q n.d.q i)):=by
 rw[ah.pos,B3]
theorem aLj(t:ah)(p:NV)(n:NB){i j:Nat}(c:0<n.d.q)(B:j<i)(hi:0<bW (ez t n.a.q n.b.q n.d.q i))(u:0<bW (ez t n.a.q n.b.q n.d.q j)):
 uc (t.bD p n i) (t.bD p n j)<0↔dU (eC t p.q n.a.q n.b.q n.d.q i) (eC t p.q n.a.q n.b.q n.d.q j)<0:=by
 have m:=FK t p n i;have o:=FK t p n j;have A:(t.bD p n i).s.q=ez t n.a.q n.b.q n.d.q i:=B3 t n i;have l:(t.bD p n j).s.q=ez t n.a.q n.b.q n.d.q j:=B3 t n j;have hc:(((t.bD p n j).s.times (t.bD p n i).g).add ((t.bD p n i).s.times (t.bD p n j).g).neg).q=⟨(ez t n.a.q n.b.q n.d.q j).a*nt t p.q i-(ez t n.a.q n.b.q n.d.q i).a*nt t p.q j,(ez t n.a.q n.b.q n.d.q j).b*nt t p.q i-(ez t n.a.q n.b.q n.d.q i).b*nt t p.q j,n.d.q⟩:=by
  rw[<-m,<-o,<-A,<-l];generalize t.bD p n i=x,hy:t.bD p n j=y at*;have c:y.s.d.q=n.d.q:=congrArg S3.d l;show S3.mk (y.s.a.q*x.g.q+-(x.s.a.q*y.g.q)) (y.s.b.q*x.g.q+-(x.s.b.q*y.g.q)) y.s.d.q=S3.mk (y.s.a.q*x.g.q-x.s.a.q*y.g.q) (y.s.b.q*x.g.q-x.s.b.q*y.g.q) n.d.q;rw[c,ei,ei]
 have w:=(zj c).1 (show 0<bW ⟨(ez t n.a.q n.b.q n.d.q i).a,(ez t n.a.q n.b.q n.d.q i).b,n.d.q⟩from hi);have z:=(zj c).1 (show 0<bW ⟨(ez t n.a.q n.b.q n.d.q j).a,(ez t n.a.q n.b.q n.d.q j).b,n.d.q⟩from u);have v:=YA c w z (nt t p.q i) (nt t p.q j);have k:∀g e f,fQ g ⟨e,f,n.d.q⟩=⟨(fQ g ⟨e,f,n.d.q⟩).a,(fQ g ⟨e,f,n.d.q⟩).b,n.d.q⟩:=fun g e f=>by
  rw[fQ];split<;>rfl
 have e1:eC t p.q n.a.q n.b.q n.d.q i=⟨(eC t p.q n.a.q n.b.q n.d.q i).a,(eC t p.q n.a.q n.b.q n.d.q i).b,n.d.q⟩:=k _ _ _;have e2:eC t p.q n.a.q n.b.q n.d.q j=⟨(eC t p.q n.a.q n.b.q n.d.q j).a,(eC t p.q n.a.q n.b.q n.d.q j).b,n.d.q⟩:=k _ _ _;rw[e1,e2,aO6 c];have e3:Pd n.d.q ((eC t p.q n.a.q n.b.q n.d.q i).a-(eC t p.q n.a.q n.b.q n.d.q j).a) ((eC t p.q n.a.q n.b.q n.d.q i).b-(eC t p.q n.a.q n.b.q n.d.q j).b)↔_:=v;rw[e3,<-aP8 c,uc,hc];show(if _=0 then(i:Int)-(j:Int)else _)<0↔_;generalize bW _=r
 by_cases h:r=0
 ·rw[if_pos h];omega
 ·rw[if_neg h]
theorem LC(t:ah)(p:NV)(n:NB)(r:0<n.d.q):∀m:Nat,match t.fK p n m with
  |[]=>jN t p.q n.a.q n.b.q n.d.q m=none
  |m0::l=>∃j,j<m/\0<bW (ez t n.a.q n.b.q n.d.q j)/\iT m0 l=t.bD p n j/\jN t p.q n.a.q n.b.q n.d.q m=some j
 |0=>rfl
 |m+1=>by
  have f:=LC t p n r m;rw[ah.Fc,Lv,Ft,zx.eq_def]
  by_cases e:0<bW (ez t n.a.q n.b.q n.d.q m)
  ·rw[decide_eq_true e,if_pos rfl,if_neg o_];generalize u:t.fK p n m=L at*;cases L with
   |nil=>
    dsimp only at f;rw[f];exact⟨m,o_,e,E7 _,rfl⟩
   |cons m0 l=>
    obtain⟨j,o,g,i,k⟩:=f;rw[List.cons_append];dsimp only;have s:iT m0 (l++[t.bD p n m])=vV (iT m0 l) (t.bD p n m):=by
     rw[iT,b2];rfl
    have hc:=aLj t p n r o e g;rw[s,i,k,vV];dsimp only
    by_cases c:dU (eC t p.q n.a.q n.b.q n.d.q m) (eC t p.q n.a.q n.b.q n.d.q j)<0
    ·rw[if_pos (hc.2 c),if_pos c];exact⟨m,o_,e,rfl,rfl⟩
    ·rw[if_neg (fun h=>c (hc.1 h)),if_neg c];exact⟨j,o_,g,rfl,rfl⟩
  ·rw[decide_eq_false e,if_neg d_,if_pos o_];generalize t.fK p n m=L at*;cases L with
   |nil=>exact f
   |cons m0 l=>
    obtain⟨j,o,g,i,k⟩:=f;exact⟨j,o_,g,i,k⟩
theorem LY{d a b a' b':Rat}(c:0<d)(h:Nl d a b)(e:Nl d a' b')(p q:Rat):Nl d (p*a+q*a') (p*b+q*b'):=by
 have f:=Nl.mul c h p 0;have g:=Nl.mul c e q 0;have:=Nl.add c f g
 rwa [show p*a+0*b*d+(q*a'+0*b'*d)=p*a+q*a' by grind,show p*b+a*0+(q*b'+a'*0)=p*b+q*b' by grind]at this
theorem YH(t:ah)(A B:V2){d W:Rat}(b:0<d)(ak:3<=t.cs.length)(hc:t.ga=true)(aa:0<W)(n:A.dot A+B.dot B*d=W)(R:A.dot B=0):∃i,i<t.cs.length/\0<bW (ez t A B d i):=by
 refine Decidable.by_contra fun ac=>?_;have ab:∀i,i<t.cs.length->Pd d (-(A.aX (t.bC i))) (-(B.aX (t.bC i))):=fun i hi=>by
  refine(uD b).1 ?_
  by_cases h:0<bW (ez t A B d i)
  ·exact(ac ⟨i,hi,h⟩).elim
  ·exact Int.not_lt.1 h
 obtain⟨f,hf⟩:∃f:Nat->Rat,f=fun i=>A.aX (c7 (t.at i)):=⟨_,rfl⟩
 obtain⟨g,I⟩:∃g:Nat->Rat,g=fun i=>B.aX (c7 (t.at i)):=⟨_,rfl⟩
 have step:∀i,i<t.cs.length->Pd d (f i-f (t.nx i)) (g i-g (t.nx i)):=fun i hi=>by
  have:=ab i hi;have X:-(A.aX (t.bC i))=f i-f (t.nx i):=by rw[hf];simp only[ah.bC,V2.aX,V2.sub];grind
  have Y:-(B.aX (t.bC i))=g i-g (t.nx i):=by rw[I];simp only[ah.bC,V2.aX,V2.sub];grind
  rwa [X,Y]at this
 have q:∀i,i+1<t.cs.length->t.nx i=i+1:=fun i hi=>da hi;have ae:t.nx (t.cs.length-1)=0:=by
  rw[ah.nx,Nat.sub_add_cancel o_];exact dg _
 have trans:∀{x y z r s u:Rat},Pd d (x-y) (r-s)->Pd d (y-z) (s-u)->Pd d (x-z) (r-u):=fun{x y z r s u} h k=>by
  have:=Pd.add b h k
  rwa [show x-y+(y-z)=x-z by grind,show r-s+(s-u)=r-u by grind]at this
 have V:∀k,2+k<t.cs.length->Pd d (f 2-f (2+k)) (g 2-g (2+k)):=fun k=>by
  induction k with
  |zero=>
   intro _;rw[Nat.add_zero,fb,fb];exact Pd.zero d
  |succ k ad=>
   intro h;have n:=step (2+k) o_;rw[q _ o_]at n;exact trans (ad o_) n
 have F:=step 0 o_;have G:=step 1 o_;have O:=V (t.cs.length-3) o_;have P:=step (t.cs.length-1) o_;rw[q 0 o_]at F;rw[q 1 o_]at G;rw[ae]at P;rw[show 2+(t.cs.length-3)=t.cs.length-1 by omega]at O;have Q:=trans O P;have o:Nl d (f 1-f 0) (g 1-g 0):=⟨trans G Q,by rw[e7,e7];exact F⟩
 have p:Nl d (f 2-f 0) (g 2-g 0):=⟨Q,by rw[e7,e7];exact trans F G⟩
 rw[ah.ga,decide_eq_true_eq]at hc;have hx:=hc 0 o_ 2 o_ d_ (by rw[q 0 o_];decide);rw[q 0 o_,mR]at hx;rw[hf,I]at o p;dsimp only at o p;rw[Nat.zero_add]at hx;generalize t.at 0=a,t.at 1=v,t.at 2=w at*;obtain⟨c,J⟩:∃c:Rat,c=(v.x:Rat)-a.x:=⟨_,rfl⟩
 obtain⟨j,L⟩:∃j:Rat,j=(v.y:Rat)-a.y:=⟨_,rfl⟩
 obtain⟨l,M⟩:∃l:Rat,l=(w.x:Rat)-a.x:=⟨_,rfl⟩
 obtain⟨m,N⟩:∃m:Rat,m=(w.y:Rat)-a.y:=⟨_,rfl⟩
 have hq:¬c*m-j*l=0:=by
  intro e;have e2:(((v.x-a.x)*(w.y-a.y)-(v.y-a.y)*(w.x-a.x):Int):Rat)=((0:Int):Rat):=by
   rw[eo,e9,e9,eo,eo,eo,eo];rw[J,L,M,N]at e;exact e
  have:=ey.1 e2;omega
 obtain⟨C,D⟩:=A;obtain⟨bx,E⟩:=B;simp only[V2.aX,V2.dot,c7]at o p n R;have T:Nl d (C*j-D*c) (bx*j-E*c):=by
  rw[J,L];refine cast ?_ o;congr 1<;>grind
 have U:Nl d (C*m-D*l) (bx*m-E*l):=by
  rw[M,N];refine cast ?_ p;congr 1<;>grind
 clear o p J L M N hf I;have ai:=LY b U T c (-l);have y1:=LY b U T j (-m);obtain⟨K,H⟩:∃K:Rat,K=c*m-j*l:=⟨_,rfl⟩
 have aj:Nl d (C*K) (bx*K):=by
  rw[H];refine cast ?_ ai;congr 1<;>grind
 have y2:Nl d (D*K) (E*K):=by
  rw[H];refine cast ?_ y1;congr 1<;>grind
 have af:=Nl.add b (Nl.mul b aj (C*K) (bx*K)) (Nl.mul b y2 (D*K) (E*K));have ag:Nl d (W*(K*K)) 0:=by
  refine cast ?_ af;congr 1<;>grind
 rw[<-H]at hq;have Z:0<K*K:=by
  have n:=sq_nonneg K;have R:K*K≠0:=fun e=>by rcases ee.1 e with e|e<;>exact hq e
  grind
 have S:=ql aa Z;rcases ag.2 with⟨h,_⟩|⟨_,h⟩
 ·grind
 ·have:=ql S S
  grind
def cC(w d:V2):V2:=⟨w.x-w.dot d*d.x/d.dot d,w.y-w.dot d*d.y/d.dot d⟩
def cL(d:V2):V2:=⟨d.x/d.dot d,d.y/d.dot d⟩
theorem B9{x y z:Rat}(a:y≠0)(h:x=z*y):x/y=z:=by
 rw[h,ec,Rat.mul_assoc,ed _ a,fm]
theorem Yz(w d e:V2)(hz:d.dot d≠0):(cC w d).aX e=w.aX d*d.dot e*(d.dot d)⁻¹:=by
 have hi:=ed _ hz;simp only[cC,V2.aX,ec];generalize (d.dot d)⁻¹=i at*;simp only[V2.dot]at*;have k:(w.x-(w.x*d.x+w.y*d.y)*d.x*i)*e.y-(w.y-(w.x*d.x+w.y*d.y)*d.y*i)*e.x=(w.x*e.y-w.y*e.x)*(1-(d.x*d.x+d.y*d.y)*i)+(w.x*d.y-w.y*d.x)*(d.x*e.x+d.y*e.y)*i:=by grind
 rw[k,hi];grind
theorem Yy(d e:V2):(cL d).aX e=d.aX e*(d.dot d)⁻¹:=by
 simp only[cL,V2.aX,ec]
 grind
theorem aO9(w d e:V2)(hz:d.dot d≠0):(cC w d).dot e= -(w.aX d*d.aX e)*(d.dot d)⁻¹:=by
 have hi:=ed _ hz;simp only[cC,V2.aX,ec];generalize (d.dot d)⁻¹=i at*;simp only[V2.dot]at*;have k:(w.x-(w.x*d.x+w.y*d.y)*d.x*i)*e.x+(w.y-(w.x*d.x+w.y*d.y)*d.y*i)*e.y=(w.x*e.x+w.y*e.y)*(1-(d.x*d.x+d.y*d.y)*i)+-((w.x*d.y-w.y*d.x)*(d.x*e.y-d.y*e.x))*i:=by grind
 rw[k,hi];grind
theorem aPa(d e:V2):(cL d).dot e=d.dot e*(d.dot d)⁻¹:=by
 simp only[cL,V2.dot,ec]
 grind
theorem VH(d e:V2):d.dot e*d.dot e+d.aX e*d.aX e=d.dot d*e.dot e:=by
 simp only[V2.dot,V2.aX];grind
def jn(c Q E F:Rat):Rat:=c*c*E-F*(Q*Q)
theorem LQ{c P Q D E F i:Rat}(a:P*P+Q*Q=D*E)(hi:D*i=1):c*P*i*(c*P*i)-Q*i*(Q*i)*(F*D-c*c)=jn c Q E F*i:=by
 have k:c*P*i*(c*P*i)-Q*i*(Q*i)*(F*D-c*c)=(D*i)*(i*(c*c*E-F*(Q*Q)))+i*i*c*c*(P*P+Q*Q-D*E):=by grind
 rw[k,hi,a,jn];grind
theorem LP{c P Q D E F i:Rat}(g:Rat)(e:P*P+Q*Q=D*E)(hi:D*i=1):
 fQ g ⟨c*P*i,Q*i,F*D-c*c⟩=if jn c Q E F=0 then⟨g/(2*(c*P*i)),0,F*D-c*c⟩else⟨g/jn c Q E F*(c*P),-(g/jn c Q E F*Q),F*D-c*c⟩:=by
 have f:i≠0:=fun h=>by rw[h,eP]at hi;exact absurd hi d_
 rw[fQ];dsimp only;rw[LQ e hi]
 by_cases a:jn c Q E F=0
 ·rw[if_pos a,if_pos (by rw[a,eq])]
 ·have b:jn c Q E F*i≠0:=fun h=>(ee.1 h).elim a f;have d:g/jn c Q E F*jn c Q E F=g:=er a;rw[if_neg a,if_neg b,B9 b (x:=g*(c*P*i)) (z:=g/jn c Q E F*(c*P)),B9 b (x:=g*(Q*i)) (z:=g/jn c Q E F*Q)]
  ·generalize g/jn c Q E F=h at*;rw[<-d];grind
  ·generalize g/jn c Q E F=h at*;rw[<-d];grind
theorem aLi{c P Q D E F i:Rat}(g:Rat)(b:P*P+Q*Q=D*E)(hi:D*i=1)(d:jn c Q E F=0->c≠0/\P≠0):
 (fQ g ⟨c*P*i,Q*i,F*D-c*c⟩).mul ⟨-(c*Q)*i,P*i,F*D-c*c⟩=if jn c Q E F=0 then⟨-(g/(2*P)*Q),g/(2*c),F*D-c*c⟩else⟨-(F*(g/jn c Q E F)*(P*Q)),g/jn c Q E F*c*E,F*D-c*c⟩:=by
 have n:i≠0:=fun h=>by rw[h,eP]at hi;exact absurd hi d_
 rw[LP g b hi]
 by_cases a:jn c Q E F=0
 ·obtain⟨hc,m⟩:=d a;have f:2*P≠0:=by grind
  have j:2*c≠0:=by grind
  have l:2*(c*P*i)≠0:=fun e=>(ee.1 e).elim (fun e=>absurd e d_) fun e=>(ee.1 e).elim (fun e=>(ee.1 e).elim hc m) n;have k3:g/(2*(c*P*i))*(2*(c*P*i))=g:=er l;rw[if_pos a,if_pos a,B9 f (x:=g) (z:=g/(2*(c*P*i))*(c*i)) (by generalize g/(2*(c*P*i))=k at*;rw[<-k3];grind),B9 j (x:=g) (z:=g/(2*(c*P*i))*(P*i)) (by generalize g/(2*(c*P*i))=k at*;rw[<-k3];grind)];generalize g/(2*(c*P*i))=k;rw[S3.mul];congr 1<;>grind
 ·rw[if_neg a,if_neg a];generalize g/jn c Q E F=h;rw[S3.mul];dsimp only;congr 1
  ·have k:h*(c*P)*(-(c*Q)*i)+-(h*Q)*(P*i)*(F*D-c*c)= -(F*h*(P*Q))*(D*i):=by grind
   rw[k,hi];grind
  ·have k:h*(c*P)*(P*i)+-(c*Q)*i* -(h*Q)=h*c*i*(P*P+Q*Q):=by grind
   rw[k,b];have k2:h*c*i*(D*E)=h*c*E*(D*i):=by grind
   rw[k2,hi];grind
theorem B5(r:Int)(w d:V2):bU r w d=bH r*d.dot d-w.aX d*w.aX d:=by
 rw[bU];generalize bH r=F;simp only[V2.dot,V2.aX];grind
theorem Cg{w d:V2}(t:ah)(r:Int)(i:Nat)(hz:d.dot d≠0):ez t (cC w d) (cL d) (bU r w d) i=⟨w.aX d*d.dot (t.bC i)*(d.dot d)⁻¹,d.aX (t.bC i)*(d.dot d)⁻¹,bH r*d.dot d-w.aX d*w.aX d⟩:=by
 rw[ez,Yz _ _ _ hz,Yy,B5]
theorem VU(w d:V2)(hz:d.dot d≠0):(cC w d).x=w.aX d*d.y*(d.dot d)⁻¹:=by
 have hi:=ed _ hz;simp only[cC,V2.aX,ec];generalize (d.dot d)⁻¹=i at*;simp only[V2.dot]at*;have k:w.x-(w.x*d.x+w.y*d.y)*d.x*i=w.x*(1-(d.x*d.x+d.y*d.y)*i)+(w.x*d.y-w.y*d.x)*d.y*i:=by grind
 rw[k,hi];grind
theorem VV(w d:V2)(hz:d.dot d≠0):(cC w d).y= -(w.aX d*d.x*(d.dot d)⁻¹):=by
 have hi:=ed _ hz;simp only[cC,V2.aX,ec];generalize (d.dot d)⁻¹=i at*;simp only[V2.dot]at*;have k:w.y-(w.x*d.x+w.y*d.y)*d.y*i=w.y*(1-(d.x*d.x+d.y*d.y)*i)+-((w.x*d.y-w.y*d.x)*d.x*i):=by grind
 rw[k,hi];grind
theorem Yu(r:Int)(w d:V2)(hz:d.dot d≠0):(cC w d).dot (cC w d)+(cL d).dot (cL d)*bU r w d=bH r:=by
 rw[B5,V2.dot,V2.dot,VU w d hz,VV w d hz];have hi:=ed _ hz;simp only[cL,ec];generalize bH r=F;generalize w.aX d=c;have a:d.x*d.x+d.y*d.y=d.dot d:=rfl;generalize (d.dot d)⁻¹=i at*;generalize d.dot d=D at*;have k:c*d.y*i*(c*d.y*i)+-(c*d.x*i)* -(c*d.x*i)+(d.x*i*(d.x*i)+d.y*i*(d.y*i))*(F*D-c*c)=(d.x*d.x+d.y*d.y)*i*(F*(D*i)):=by grind
 rw[k,a,hi];grind
theorem Yv(w d:V2)(hz:d.dot d≠0):(cC w d).dot (cL d)=0:=by
 rw[V2.dot,VU w d hz,VV w d hz];simp only[cL,ec]
 grind
structure Sz(t:ah)(r:Int)(w d p:V2):Prop where
 hn:∀c∈t.cs,eH c
 r0:0<=r
 r1:r<=1000000
 ow:aS 61 w
 od:aS 30 d
 op:aS 30 p
 hz:d.dot d≠0
theorem wM{r:Int}{w d:V2}(r0:0<=r)(r1:r<=1000000)(ow:aS 61 w)(od:aS 30 d):aL 776 (bU r w d):=
 (gl (bh (cR ow od) (cR ow od)) (bh (cR od od) (gl (cR ow ow) (my r0 r1)))).mono d_
theorem zm{w d:V2}(ow:aS 61 w)(od:aS 30 d):aS 396 (cC w d):=
 ⟨(gl ow.1 (iq (bh (cR ow od) od.1) (cR od od))).mono d_,(gl ow.2 (iq (bh (cR ow od) od.2) (cR od od))).mono d_⟩
theorem zl{d:V2}(od:aS 30 d):aS 151 (cL d):=⟨(iq od.1 (cR od od)).mono d_,(iq od.2 (cR od od)).mono d_⟩
theorem Sz.parts{t:ah}{r:Int}{w d p:V2}(h:Sz t r w d p){i:Nat}(hi:i<t.cs.length):
 aL 183 (w.aX d)/\aL 119 (d.dot (t.bC i))/\aL 119 (d.aX (t.bC i))/\aL 121 (d.dot d)/\aL 117 ((t.bC i).dot (t.bC i))/\aL 42 (bH r)/\aL 149 (nt t p i)/\aL 149 ((p.sub (c7 (t.at i))).dot (t.bC i))/\aL 764 (jn (w.aX d) (d.aX (t.bC i)) ((t.bC i).dot (t.bC i)) (bH r))/\aL 530 (bH r*d.dot d-w.aX d*w.aX d):=by
 have a:=ah.okW h.hn hi;have b:=eB h.op (gE (ah.eg h.hn hi));have f:=my h.r0 h.r1;have c:=lB h.ow h.od;have P:=cR h.od a;have Q:=lB h.od a;have D:=cR h.od h.od;have E:=cR a a;exact⟨c.mono d_,P.mono d_,Q.mono d_,D.mono d_,E.mono d_,f,(lB a b).mono d_,(cR b a).mono d_,(gl (bh (bh c c) E) (bh f (bh Q Q))).mono d_,(gl (bh f D) (bh c c)).mono d_⟩
theorem wO{t:ah}{r:Int}{w d p:V2}(h:Sz t r w d p){i:Nat}(hi:i<t.cs.length):yA (eC t p (cC w d) (cL d) (bU r w d) i):=by
 obtain⟨f,c,j,g,oE,k,a,l,b,e⟩:=h.parts hi;rw[eC,Cg t r i h.hz,LP _ (VH d (t.bC i)) (ed _ h.hz)]
 split
 ·exact⟨(iq a (bh rD (bh (bh f c) (lL g)))).mono d_,iD d_,e.mono d_⟩
 ·exact⟨(bh (iq a b) (bh f c)).mono d_,(j0 (bh (iq a b) j)).mono d_,e.mono d_⟩
def q8(t:ah)(p A B:V2)(d:Rat)(i:Nat):S3:=
 S3.times ((t.bC i).dot (t.bC i))⁻¹ ⟨((eC t p A B d i).mul ⟨A.dot (t.bC i),B.dot (t.bC i),d⟩).a+(p.sub (c7 (t.at i))).dot (t.bC i),((eC t p A B d i).mul ⟨A.dot (t.bC i),B.dot (t.bC i),d⟩).b,((eC t p A B d i).mul ⟨A.dot (t.bC i),B.dot (t.bC i),d⟩).d⟩
theorem L9{t:ah}{r:Int}{w d p:V2}(h:Sz t r w d p){i:Nat}(hi:i<t.cs.length)(k:0<bU r w d)(v:(t.bC i).dot (t.bC i)≠0)(hs:0<bW (ez t (cC w d) (cL d) (bU r w d) i)):
 il 1800 (q8 t p (cC w d) (cL d) (bU r w d) i):=by
 obtain⟨s,n,o,B,oE,A,b,l,m,q⟩:=h.parts hi;have g:=ed _ h.hz;have f:=VH d (t.bC i);have u:jn (w.aX d) (d.aX (t.bC i)) ((t.bC i).dot (t.bC i)) (bH r)=0->w.aX d≠0/\d.dot (t.bC i)≠0:=fun y=>by
  rw[Cg t r i h.hz]at hs;rw[B5]at k;have hn:=LQ (c:=w.aX d) (F:=bH r) f g;rw[y,eq]at hn;have a:=(yZ ((zj k).1 hs) hn).1;constructor
  ·intro e;rw[e,eq,eq]at a;exact absurd a d_
  ·intro e;rw[e,eP,eq]at a;exact absurd a d_
 have z:=aLi (nt t p i) f g u;rw[q8,eC,Cg t r i h.hz,aO9 w d _ h.hz,aPa,B5,z]
 split
 ·exact⟨(bh (lL oE) (jK (j0 (bh (iq b (bh rD n)) o)) l)).mono d_,(bh (lL oE) (iq b (bh rD s))).mono d_,q.mono d_⟩
 ·refine⟨(bh (lL oE) (jK (j0 (bh (bh A (iq b m)) (bh n o))) l)).mono d_,?_,q.mono d_⟩;show aL 1800 (((t.bC i).dot (t.bC i))⁻¹*(_*(t.bC i).dot (t.bC i)));have hx:=ed _ v;have e:∀x:Rat,((t.bC i).dot (t.bC i))⁻¹*(x*(t.bC i).dot (t.bC i))=x:=fun x=>by
   generalize ((t.bC i).dot (t.bC i))⁻¹=j at*;generalize (t.bC i).dot (t.bC i)=E at*;have:j*(x*E)=x*(E*j):=by grind
   rw[this,hx,fm]
  rw[e];exact(bh (iq b m) s).mono d_
def NM.aB(m:NM):NB:=⟨m.w.sub (m.d.times ((m.w.dot m.d).div (m.d.dot m.d))),m.d.times (m.d.dot m.d).inv,m.root⟩
def NM.ar(m:NM)(width:NF):NB:=⟨m.d.sub (m.aB.b.times (m.root.div width)),m.aB.a.times width.inv.neg,m.root⟩
def NB.dot(n:NB)(w:NV):NS:=⟨n.a.dot w,n.b.dot w,n.d⟩
theorem YQ(w d:NV)(root:NF)(c:aS 200 w.q)(a:aS 100 d.q)(hz:(d.dot d).q≠0):al prog 84 [pT ⟨w,d,root⟩] (kj (NM.aB ⟨w,d,root⟩)):=by
 have f:aL 601 (w.dot d).q:=by rw[NV.fU];exact cR c a
 have b:aL 401 (d.dot d).q:=by rw[NV.fU];exact cR a a
 have e:aL 1002 ((w.dot d).div (d.dot d)).q:=aOO f b;have n:aS 1102 (d.times ((w.dot d).div (d.dot d))).q:=⟨eL a.1 e,eL a.2 e⟩
 have g:=sf d (a.mono d_);have h:=sK w d (c.mono d_) (a.mono d_);have i:=yl (w.dot d) (d.dot d) (f.mono d_) (b.mono d_) hz;have j:=yi d ((w.dot d).div (d.dot d)) (a.mono d_) (e.mono d_);have k:=pQ w (d.times ((w.dot d).div (d.dot d))) (c.mono d_) (n.mono d_);have l:=xX (d.dot d) (b.mono d_) hz;have m:=yi d (d.dot d).inv (a.mono d_) ((LX b).mono d_);refine gA_ nf func84 mix ?_;rw[NM.aB,TW];dsimp only;rw[Iu];simp(maxDischargeDepth:=99) [f84,aa,c1 g,e2 h,e2 i,e2 j,e2 k,e1 l,e2 m]
theorem aKP(m:NM)(b:aS 200 m.w.q)(a:aS 100 m.d.q)(hz:(m.d.dot m.d).q≠0):al prog 84 [pT m] (kj m.aB):=YQ m.w m.d m.root b a hz
theorem Nt(n:NB)(e:NV)(hn:okB 8000 n)(c:aS 8000 e.q):al prog 185 [kj n,bQ e] (ct (n.dot e)):=by
 have d:=sK n.a e (hn.1.mono d_) (c.mono d_);have f:=sK n.b e (hn.2.1.mono d_) (c.mono d_);refine gA_ nf func185 mix ?_;rw[NB.dot,tW];simp(maxDischargeDepth:=99) [f185,aa,e2 d,e2 f]
noncomputable def XD.share(x:XD)(b:NV)(n:NB):NS:=(((x.s.under x.g).mul (n.dot x.w)).add (.plain ((b.sub x.a).dot x.w) ((x.s.under x.g).mul (n.dot x.w)).d)).times (x.w.dot x.w).inv
theorem FB{k l:Nat}{s t:NS}(hs:dK k s)(a:dK l t):dK (k+l+(k+l+k)+1) (s.mul t):=
 ⟨(ru (eL hs.1 a.1) (eL (eL hs.2.1 a.2.1) hs.2.2)).mono o_,(ru (eL hs.1 a.2.1) (eL a.1 hs.2.1)).mono o_,hs.2.2.mono o_⟩
theorem Mc(x:XD)(b:NV)(n:NB)(hx:me x)(j:x.s.norm.q=0->x.s.a.q≠0)(hf:dK 1300 (x.s.under x.g))(c:aS 29 x.w.q)(e:aS 14 x.a.q)(f:aS 60 b.q)(hn:okB 900 n)(k:(x.w.dot x.w).q≠0):al prog 101 [ig x,bQ b,kj n] (ct (x.share b n)):=by
 have oE:aL 117 (x.w.dot x.w).q:=by rw[NV.fU];exact cR c c
 have i:aS 75 (b.sub x.a).q:=by rw[NV.dJ];exact eB f e
 have B:aL 209 ((b.sub x.a).dot x.w).q:=by rw[NV.fU];exact cR i c
 have od:dK 1859 (n.dot x.w):=⟨by rw[NB.dot];dsimp only;rw[NV.fU];exact(cR hn.1 c).mono d_,by rw[NB.dot];dsimp only;rw[NV.fU];exact(cR hn.2.1 c).mono d_,hn.2.2.mono d_⟩
 have h:=FB hf od;have op:dK 1859 (.plain ((b.sub x.a).dot x.w) ((x.s.under x.g).mul (n.dot x.w)).d):=⟨B.mono d_,(ke d_ d_:aL 20 (NF.int 0).q).mono d_,hf.2.2.mono d_⟩
 have m:=sf x.w (c.mono d_);have p:=xX (x.w.dot x.w) (oE.mono d_) k;have r:=Cb x hx j;have t:=Nt n x.w (hn.mono d_) (c.mono d_);have u:=Cc (x.s.under x.g) (n.dot x.w) (hf.mono d_) (od.mono d_);have v:=pQ b x.a (f.mono d_) (e.mono d_);have y:=sK (b.sub x.a) x.w (i.mono d_) (c.mono d_);have z:=s8 ((b.sub x.a).dot x.w) ((x.s.under x.g).mul (n.dot x.w)).d;have A:=s9 ((x.s.under x.g).mul (n.dot x.w)) (.plain ((b.sub x.a).dot x.w) ((x.s.under x.g).mul (n.dot x.w)).d) (h.mono d_) (op.mono d_);have o:=BU (((x.s.under x.g).mul (n.dot x.w)).add (.plain ((b.sub x.a).dot x.w) ((x.s.under x.g).mul (n.dot x.w)).d)) (x.w.dot x.w).inv ((yY h op).mono d_) ((LX oE).mono d_);refine gA_ nf func101 mix ?_;rw[XD.share];clear oE h op od i hf k j hx c e f hn;generalize l:NS.add ((x.s.under x.g).mul (n.dot x.w)) (.plain ((b.sub x.a).dot x.w) ((x.s.under x.g).mul (n.dot x.w)).d)=v1 at*;clear l;generalize NS.plain ((b.sub x.a).dot x.w) ((x.s.under x.g).mul (n.dot x.w)).d=v2,(x.s.under x.g).mul (n.dot x.w)=v3,n.dot x.w=v4,x.s.under x.g=v5 at*;obtain⟨E,C,F,D,xs⟩:=x;dsimp only at*;simp+decide (maxDischargeDepth:=99) [f101,aa,c1 m,c1 p,e1 r,e2 t,e2 u,e2 v,e2 y,e2 z,e2 A,e2 o]
theorem e6{f:bb}{L:bg->Prop}{H:ak}{a b c d e g v:PV}(h:al prog f [a,b,c,d,e,g] v)(hk:L {v:=.p v}):pD prog f L [.p a,.p b,.p c,.p d,.p e,.p g] H:=
 .inl ⟨[a,b,c,d,e,g],v,rfl,h,hk⟩
theorem L6{r:Int}(h:1<=r):bH r≠0:=by
 intro e;rw[bH]at e;have a:(4*r*r:Int)=0:=by
  have:((4*r*r:Int):Rat)=((0:Int):Rat):=e;exact ey.1 this
 have b:0<4*r*r:=Int.mul_pos o_ o_;omega
def wQ(w d wd a u:Rat):S3:=⟨w-wd*d/a,d/a,u⟩
def wR(w d wd a u F:Rat):S3:=⟨d-d*u/(F*a),-((w-wd*d/a)/F),u⟩
def lY(r:Int)(w d:V2):P4:=⟨⟨(cC w d).x,(cL d).x,bU r w d⟩,⟨(cC w d).y,(cL d).y,bU r w d⟩⟩
def I9(r:Int)(w d:V2):P4:=⟨wR w.x d.x (w.dot d) (d.dot d) (bU r w d) (bH r),wR w.y d.y (w.dot d) (d.dot d) (bU r w d) (bH r)⟩
theorem Lo(w d wd a u:Rat)(f:aL 61 w)(b:aL 30 d)(e:aL 183 wd)(c:aL 121 a)(hz:a≠0):al prog 205 [.str (aN w),.str (aN d),.str (aN wd),.str (aN a),.str (aN u)] (eS (wQ w d wd a u)):=by
 have g:=ff wd d (e.mono d_) (b.mono d_);have h:=nH (wd*d) a ((bh e b).mono d_) (c.mono d_) hz;have i:=mB w ((wd*d)/a) (f.mono d_) ((iq (bh e b) c).mono d_);have j:=nH d a (b.mono d_) (c.mono d_) hz;have k:=Bg (aN (w-((wd*d)/a))) (aN (d/a)) (aN u);refine gA_ nf func205 mix ?_;rw[wQ,pS];simp(maxDischargeDepth:=99) [f205,aa,c2 g,c2 h,c2 i,c2 j,c3 k]
theorem Nr(w d wd a u F:Rat)(i:aL 61 w)(b:aL 30 d)(g:aL 183 wd)(c:aL 121 a)(h:aL 776 u)(f:aL 42 F)(hz:a≠0)(j:F≠0):al prog 206 [.str (aN w),.str (aN d),.str (aN wd),.str (aN a),.str (aN u),.str (aN F)] (eS (wR w d wd a u F)):=by
 have k:F*a≠0:=fun e=>(ee.1 e).elim j hz;have l:=ff d u (b.mono d_) (h.mono d_);have n:=ff F a (f.mono d_) (c.mono d_);have o:=nH (d*u) (F*a) ((bh b h).mono d_) ((bh f c).mono d_) k;have p:=mB d ((d*u)/(F*a)) (b.mono d_) ((iq (bh b h) (bh f c)).mono d_);have q:=ff wd d (g.mono d_) (b.mono d_);have r:=nH (wd*d) a ((bh g b).mono d_) (c.mono d_) hz;have s:=mB w ((wd*d)/a) (i.mono d_) ((iq (bh g b) c).mono d_);have t:=nH (w-((wd*d)/a)) F ((gl i (iq (bh g b) c)).mono d_) (f.mono d_) j;have v:=vJ ((w-((wd*d)/a))/F) ((iq (gl i (iq (bh g b) c)) f).mono d_);have m:=Bg (aN (d-((d*u)/(F*a)))) (aN (-((w-((wd*d)/a))/F))) (aN u);refine gA_ nf func206 mix ?_;rw[wR,pS];simp(maxDischargeDepth:=99) [f206,aa,c2 l,c2 n,c2 o,c2 p,c2 q,c2 r,c2 s,c2 t,c1 v,c3 m]
theorem Ys(r:Int)(w d:V2)(r0:1<=r)(r1:r<=1000000)(b:aS 61 w)(a:aS 30 d)(hz:d.dot d≠0):al prog 111 [.int .i64 r,eV w,eV d] (.aE [mc (lY r w d),mc (I9 r w d)]):=by
 have e:aL 183 (w.dot d):=cR b a;have c:aL 121 (d.dot d):=cR a a;have h:aL 776 (bU r w d):=wM o_ r1 b a;have g:aL 42 (bH r):=my o_ r1;have f:bH r≠0:=L6 o_;have i:=sJ w d (b.mono d_) (a.mono d_);have j:=pC d (a.mono d_);have k:=HT r w d o_ r1 (b.mono d_) (a.mono d_);have l:=D2 r o_ r1;have m:=Lo w.x d.x (w.dot d) (d.dot d) (bU r w d) b.1 a.1 e c hz;have n:=Lo w.y d.y (w.dot d) (d.dot d) (bU r w d) b.2 a.2 e c hz;have o:=Nr w.x d.x (w.dot d) (d.dot d) (bU r w d) (bH r) b.1 a.1 e c h g hz f;have p:=Nr w.y d.y (w.dot d) (d.dot d) (bU r w d) (bH r) b.2 a.2 e c h g hz f;refine gA_ nf func111 mix ?_;rw[show lY r w d=⟨wQ w.x d.x (w.dot d) (d.dot d) (bU r w d),wQ w.y d.y (w.dot d) (d.dot d) (bU r w d)⟩from rfl,I9];generalize wQ w.x d.x (w.dot d) (d.dot d) (bU r w d)=s1,wQ w.y d.y (w.dot d) (d.dot d) (bU r w d)=s2,wR w.x d.x (w.dot d) (d.dot d) (bU r w d) (bH r)=q,wR w.y d.y (w.dot d) (d.dot d) (bU r w d) (bH r)=s,bU r w d=u,bH r=F at*;rw[mc,mc];dsimp only;simp+decide (maxDischargeDepth:=99) [f111,aa,e2 i,e1 j,e3 k,e1 l,e5 m,e5 n,e6 o,e6 p]
def Ca(p:P4)(e:V2):S3:=(S3.times e.y p.x).add (S3.times (-e.x) p.y)
theorem YS(p:P4)(e:V2)(b:vX 776 p)(a:aS 29 e):al prog 207 [mc p,eV e] (eS (Ca p e)):=by
 have c:=vL e.y p.x (a.2.mono d_) (b.1.mono d_);have d:=vJ e.x (a.1.mono d_);have f:=vL (-e.x) p.y ((j0 a.1).mono d_) (b.2.mono d_);have g:=Em (S3.times e.y p.x) (S3.times (-e.x) p.y) ((Bf a.2 b.1).mono d_) ((Bf (j0 a.1) b.2).mono d_);refine gA_ nf func207 mix ?_;rw[Ca];generalize (S3.times e.y p.x).add (S3.times (-e.x) p.y)=v1,S3.times (-e.x) p.y=v2,S3.times e.y p.x=v3 at*;obtain⟨i,j⟩:=p;obtain⟨ex,h⟩:=e;dsimp only at*;rw[mc];dsimp only;simp(maxDischargeDepth:=99) [f207,aa,e2 c,e1 d,e2 f,e2 g]
theorem XL{t:ah}{r:Int}{w d:V2}(i:Nat):Ca (lY r w d) (t.bC i)=ez t (cC w d) (cL d) (bU r w d) i:=by
 rw[Ca,lY,ez];simp only[S3.times,S3.add,V2.aX];congr 1<;>grind
theorem Fu(r:Int)(w d e:V2):P4.dot e (lY r w d)=⟨(cC w d).dot e,(cL d).dot e,bU r w d⟩:=by
 rw[P4.dot,lY];simp only[S3.times,S3.add,V2.dot];congr 1<;>grind
theorem Fq{r:Int}{w d:V2}(r0:0<=r)(r1:r<=1000000)(e:aS 61 w)(c:aS 30 d):vX 776 (lY r w d):=by
 have a:=zm e c;have b:=zl c;have u:=wM r0 r1 e c;exact⟨⟨a.1.mono d_,b.1.mono d_,u⟩,⟨a.2.mono d_,b.2.mono d_,u⟩⟩
theorem aCu(g:Rat)(s:S3)(f:aL 149 g)(hs:il 900 s)(h:s.a*s.a-s.b*s.b*s.d=0->s.a≠0):al prog 208 [.str (aN g),eS s] (eS (fQ g s)):=by
 have k1:=ff s.a s.a (hs.1.mono d_) (hs.1.mono d_);have k2:=ff s.b s.b (hs.2.1.mono d_) (hs.2.1.mono d_);have k3:=ff (s.b*s.b) s.d ((bh hs.2.1 hs.2.1).mono d_) (hs.2.2.mono d_);have k4:=mB (s.a*s.a) ((s.b*s.b)*s.d) ((bh hs.1 hs.1).mono d_) ((bh (bh hs.2.1 hs.2.1) hs.2.2).mono d_);have hz:aN (s.a*s.a-s.b*s.b*s.d)=[48]↔(s.a*s.a-s.b*s.b*s.d)=0:=Db _;refine gA_ nf func208 mix ?_;rw[fQ]
 by_cases c:(s.a*s.a-s.b*s.b*s.d)=0
 ·have k5:=ff 2 s.a (rD.mono d_) (hs.1.mono d_);have k6:=nH g (2*s.a) (f.mono d_) ((bh rD hs.1).mono d_) (by have:=h c;grind);rw[Wp]at k5;have k7:=Bg (aN (g/(2*s.a))) [48] (aN s.d);have c':=hz.2 c;rw[if_pos c,pS,pI];generalize aN (s.a*s.a-s.b*s.b*s.d)=z at*;subst c';clear h hz f;obtain⟨o,p,q⟩:=s;dsimp only at*;simp(maxDischargeDepth:=99) [f208,aa,e2 k1,e2 k2,e2 k3,e2 k4,e2 k5,e2 k6,e3 k7]
 ·have i:=ff g s.a (f.mono d_) (hs.1.mono d_);have j:=nH (g*s.a) (s.a*s.a-s.b*s.b*s.d) ((bh f hs.1).mono d_) ((gl (bh hs.1 hs.1) (bh (bh hs.2.1 hs.2.1) hs.2.2)).mono d_) c;have k:=ff g s.b (f.mono d_) (hs.2.1.mono d_);have l:=nH (g*s.b) (s.a*s.a-s.b*s.b*s.d) ((bh f hs.2.1).mono d_) ((gl (bh hs.1 hs.1) (bh (bh hs.2.1 hs.2.1) hs.2.2)).mono d_) c;have m:=vJ ((g*s.b)/(s.a*s.a-s.b*s.b*s.d)) ((iq (bh f hs.2.1) (gl (bh hs.1 hs.1) (bh (bh hs.2.1 hs.2.1) hs.2.2))).mono d_);have n:=Bg (aN ((g*s.a)/(s.a*s.a-s.b*s.b*s.d))) (aN (-((g*s.b)/(s.a*s.a-s.b*s.b*s.d)))) (aN s.d);have c':¬aN (s.a*s.a-s.b*s.b*s.d)=[48]:=fun e=>c (hz.1 e);rw[if_neg c,pS];generalize aN (s.a*s.a-s.b*s.b*s.d)=z at*;clear h hz f;generalize aN (g*s.a/(s.a*s.a-s.b*s.b*s.d))=z1,aN (-(g*s.b/(s.a*s.a-s.b*s.b*s.d)))=z2,aN (g*s.b/(s.a*s.a-s.b*s.b*s.d))=z3 at*;obtain⟨o,p,q⟩:=s;dsimp only at*;simp(maxDischargeDepth:=99) [f208,aa,c',e2 k1,e2 k2,e2 k3,e2 k4,e2 i,e2 j,e2 k,e2 l,e1 m,e3 n]
def qc(t:ah)(p A B:V2)(u:Rat):Option Nat->PV
 |none=>vI
 |some j=>eS (eC t p A B u j)
@[simp] theorem aU2(t:ah)(p A B:V2)(u:Rat)(o:Option Nat):aP (qc t p A B u o)=.agg 65:=by
 cases o<;>rfl
theorem LL{t:ah}{r:Int}{w d p:V2}(h:Sz t r w d p){i:Nat}(hi:i<t.cs.length):il 530 (ez t (cC w d) (cL d) (bU r w d) i):=by
 obtain⟨f,b,c,a,oE,g,j,k,l,e⟩:=h.parts hi;rw[Cg t r i h.hz];exact⟨(bh (bh f b) (lL a)).mono d_,(bh c (lL a)).mono d_,e⟩
theorem LN(t:ah)(p A B:V2)(u:Rat):∀m j,jN t p A B u m=some j->j<m/\0<bW (ez t A B u j)
 |0,j,h=>by simp[jN]at h
 |m+1,j,h=>by
  rw[Ft,zx.eq_def]at h;have b:=LN t p A B u m
  by_cases hc:bW (ez t A B u m)<=0
  ·rw[if_pos hc]at h;have:=b j h;exact⟨o_,this.2⟩
  ·rw[if_neg hc]at h;cases a:jN t p A B u m with
   |none=>rw[a]at h;simp only[eb]at h;subst h;exact⟨o_,o_⟩
   |some c=>
    rw[a]at h;have:=b c a;dsimp only at h
    split at h
    ·simp only[eb]at h;subst h;exact⟨o_,o_⟩
    ·simp only[eb]at h;subst h;exact⟨o_,this.2⟩
theorem Nu(t:ah)(r:Int)(w d p:V2)(h:Sz t r w d p)(F:t.cs.length<=1000000)(C:0<bU r w d):
 al prog 112 [cA t,eV p,mc (lY r w d)] (.aE [.int .i64 (iJ (jN t p (cC w d) (cL d) (bU r w d) t.cs.length)),qc t p (cC w d) (cL d) (bU r w d) (jN t p (cC w d) (cL d) (bU r w d) t.cs.length)]):=by
 have hn:=h.hn;have D:=Fq h.r0 h.r1 h.ow h.od;have kE:=fun i(hi:i<t.cs.length)=>FC t i hi F hn;have c:=fun i(hi:i<t.cs.length)=>YS (lY r w d) (t.bC i) D (ah.okW hn hi);simp only[XL]at c;have kS:=fun i(hi:i<t.cs.length)=>El (ez t (cC w d) (cL d) (bU r w d) i) ((LL h hi).mono d_);have g:=fun i(hi:i<t.cs.length)=>lj p (c7 (t.at i)) (h.op.mono d_) ((gE (ah.eg hn hi)).mono d_);have f:=fun i(hi:i<t.cs.length)=>yQ (t.bC i) (p.sub (c7 (t.at i))) ((ah.okW hn hi).mono d_) ((eB h.op (gE (ah.eg hn hi))).mono d_);have b:=fun i(hi:i<t.cs.length)(hs:0<bW (ez t (cC w d) (cL d) (bU r w d) i))=>aCu (nt t p i) (ez t (cC w d) (cL d) (bU r w d) i) (h.parts hi).2.2.2.2.2.2.1 ((LL h hi).mono d_) (fun hz=>by
  have z:0<(ez t (cC w d) (cL d) (bU r w d) i).a:=(yZ ((zj C).1 hs) hz).1;intro e;rw[e]at z;exact absurd z d_)
 have q:=fun i j(hi:i<t.cs.length)(E:j<t.cs.length)=>E4 (eC t p (cC w d) (cL d) (bU r w d) i) (eC t p (cC w d) (cL d) (bU r w d) j) (wO h hi) (wO h E);have x:∀i,(t.bC i).aX (p.sub (c7 (t.at i)))=nt t p i:=fun _=>rfl;have y:∀i,fQ (nt t p i) (ez t (cC w d) (cL d) (bU r w d) i)=eC t p (cC w d) (cL d) (bU r w d) i:=fun _=>rfl;simp only[x]at f;simp only[y]at b;clear D x y;have v:=LN t p (cC w d) (cL d) (bU r w d);have G:=Ft t p (cC w d) (cL d) (bU r w d);clear h C;generalize cC w d=A,cL d=B,bU r w d=u,lY r w d=P at*;refine gA_ nf func112 mix ?_;simp[f112,aa];refine lp (α:=Nat) (fun m=>⟨[(10,.p (.int .i64 m)),(9,.ptr 4 []),(8,.p (.int .i64 (iJ (jN t p A B u m)))),(7,.ptr 3 []),(5,.ptr 2 []),(4,.ptr 1 []),(3,.ptr 0 [])],
  [.box false (.p (cA t)),.box false (.p (eV p)),.box false (.p (mc P)),.box false (.p vI),.box false (.p (qc t p A B u (jN t p A B u m)))]⟩) (fun m=>m<=t.cs.length) (fun m=>t.cs.length-m) 0 s_ ?_ (he:=by simp[jN,iJ]) (hh:=by simp[jN,qc,vI])
 rintro m m1
 by_cases hm:m<t.cs.length
 case neg=>
  have:m=t.cs.length:=o_
  subst this;generalize jN t p A B u t.cs.length=o at*;simp[aa]
 have n:=b8 (i:=m) o_;have hs:=G m;have v:=v m;have kE:=kE m hm;have c:=c m hm;have kS:=kS m hm;have g:=g m hm;have f:=f m hm;have b:=b m hm;rw[zx.eq_def]at hs
 by_cases hc:bW (ez t A B u m)<=0
 ·rw[if_pos hc]at hs;generalize ez t A B u m=X at*;simp[hm,aa];refine c2 kE ?_;simp[aa];refine c2 c ?_;simp[aa];refine c1_ kS ?_;simp[hc,n,aa];exact rd (m+1) hm (he:=by simp[hs]) (hh:=by simp[hs])
 have b:=b o_;rw[if_neg hc]at hs;generalize ez t A B u m=X at*;cases s:jN t p A B u m with
 |none=>
  rw[s]at hs;dsimp only at hs;simp[hm,iJ,aa];refine c2 kE ?_;simp[aa];refine c2 c ?_;simp[aa];refine c1_ kS ?_;simp[hc,aa];refine e2_ g ?_;simp[aa];refine e2_ f ?_;simp[aa];refine e2_ b ?_;simp[aa];refine⟨r_,?_⟩;simp[n,aa];exact rd (m+1) hm (he:=by simp[hs,iJ]) (hh:=by simp[hs,qc])
 |some j=>
  obtain⟨H,_⟩:=v j s;have k:¬(j:Int)<0:=o_
  have q:=q m j hm o_;rw[s]at hs;dsimp only at hs
  by_cases l:dU (eC t p A B u m) (eC t p A B u j)<0
  ·rw[if_pos l]at hs;generalize dU (eC t p A B u m) (eC t p A B u j)=z2 at*;simp[hm,iJ,qc,aa];refine c2 kE ?_;simp[aa];refine c2 c ?_;simp[aa];refine c1_ kS ?_;simp[hc,aa];refine e2_ g ?_;simp[aa];refine e2_ f ?_;simp[aa];refine e2_ b ?_;simp[k,aa];refine⟨r_,?_⟩;refine c2_ q ?_;simp[l,k,n,aa];exact rd (m+1) hm (he:=by simp[hs,iJ]) (hh:=by simp[hs,qc])
  ·rw[if_neg l]at hs;generalize dU (eC t p A B u m) (eC t p A B u j)=z2 at*;simp[hm,iJ,qc,aa];refine c2 kE ?_;simp[aa];refine c2 c ?_;simp[aa];refine c1_ kS ?_;simp[hc,aa];refine e2_ g ?_;simp[aa];refine e2_ f ?_;simp[aa];refine e2_ b ?_;simp[k,aa];refine⟨r_,?_⟩;refine c2_ q ?_;simp[l,k,n,aa];exact rd (m+1) hm (he:=by simp[hs,iJ]) (hh:=by simp[hs,qc])
theorem Yq(t:ah)(r:Int)(w d p:V2)(h:Sz t r w d p)(n:t.cs.length<=1000000)(o:0<bU r w d)(k:Nat)(hk:k<t.cs.length)(l:(t.bC k).dot (t.bC k)≠0)(m:jN t p (cC w d) (cL d) (bU r w d) t.cs.length=some k):
 al prog 114 [cA t,eV p,mc (lY r w d)] (.aE [.int .i64 k,eS (q8 t p (cC w d) (cL d) (bU r w d) k)]):=by
 have hn:=h.hn;have g:=Fq h.r0 h.r1 h.ow h.od;have f:=ah.okW hn hk;have q:=eB h.op (gE (ah.eg hn hk));have c:=wO h hk;have k1:=Nu t r w d p h n o;rw[m]at k1;have k2:=FC t k hk n hn;have k3:=JH (t.bC k) (lY r w d) (f.mono d_) ⟨g.1.mono d_,g.2.mono d_⟩;rw[Fu]at k3;have i:il 1000 ⟨(cC w d).dot (t.bC k),(cL d).dot (t.bC k),bU r w d⟩:=
  ⟨(cR (zm h.ow h.od) f).mono d_,(cR (zl h.od) f).mono d_,(wM h.r0 h.r1 h.ow h.od).mono d_⟩
 have e:=aOM (k:=1300) ⟨c.1,c.2.1,c.2.2⟩ i;have k4:=Ix (eC t p (cC w d) (cL d) (bU r w d) k) ⟨(cC w d).dot (t.bC k),(cL d).dot (t.bC k),bU r w d⟩ ⟨c.1.mono d_,c.2.1.mono d_,c.2.2.mono d_⟩ (i.mono d_);have k5:=lj p (c7 (t.at k)) (h.op.mono d_) ((gE (ah.eg hn hk)).mono d_);have k6:=sJ (p.sub (c7 (t.at k))) (t.bC k) (q.mono d_) (f.mono d_);have j:=(h.parts hk).2.2.2.2.2.2.2.1;have oE:=(h.parts hk).2.2.2.2.1;rw[q8];generalize s:(eC t p (cC w d) (cL d) (bU r w d) k).mul ⟨(cC w d).dot (t.bC k),(cL d).dot (t.bC k),bU r w d⟩=M at*;have k7:=qO M.a ((p.sub (c7 (t.at k))).dot (t.bC k)) (e.1.mono d_) (j.mono d_);have k8:=pC (t.bC k) (f.mono d_);have k9:=Gd ((t.bC k).dot (t.bC k)) (oE.mono d_) l;have jk:=vL ((t.bC k).dot (t.bC k))⁻¹ ⟨M.a+(p.sub (c7 (t.at k))).dot (t.bC k),M.b,M.d⟩ ((lL oE).mono d_) ⟨(jK e.1 j).mono d_,e.2.1.mono d_,e.2.2.mono d_⟩;rw[pS]at jk;rw[show eS M=.st 65 [.str (aN M.a),.str (aN M.b),.str (aN M.d)]from rfl]at k4;rw[iJ,qc]at k1;clear s e j oE i c q g l m h o;generalize S3.times ((t.bC k).dot (t.bC k))⁻¹ ⟨M.a+(p.sub (c7 (t.at k))).dot (t.bC k),M.b,M.d⟩=R,aN (M.a+(p.sub (c7 (t.at k))).dot (t.bC k))=u,(⟨(cC w d).dot (t.bC k),(cL d).dot (t.bC k),bU r w d⟩:S3)=D,eC t p (cC w d) (cL d) (bU r w d) k=X,lY r w d=P at*;refine gA_ nf func114 mix ?_;simp+decide (maxDischargeDepth:=99) [f114,aa,c3_ k1,c2_ k2,e2_ k3,e2_ k4,e2_ k5,e2_ k6,e2_ k7,e1_ k8,e1_ k9,e2_ jk]
def dE(t b:ah)(i:Nat)(d:bS)(j:Nat):NB:=(lU t b i d j).aB
theorem VM(t b:ah)(i:Nat)(d:bS)(j:Nat):(lU t b i d j).w.q=bF b i j:=by
 show((NV.from (b.sp j).pt).sub (.from (b.sp i).pt)).q=_;rw[NV.dJ];rfl
theorem YD(t b:ah)(i:Nat)(d:bS)(j:Nat):(lU t b i d j).root.q=bU t.aC (bF b i j) (vP d):=by
 have:=B2 t b i d j;rw[NS.q,fS,uW]at this;injection this
theorem aAB(m:NM):m.aB.a.q=cC m.w.q m.d.q:=by
 rw[NM.aB];dsimp only;rw[NV.dJ,NV.uw];show V2.sub m.w.q (V2.mul m.d.q (m.w.q.dot m.d.q/m.d.q.dot m.d.q))=_;rw[V2.sub,V2.mul,cC];dsimp only;rw[ec,ec,ec];congr 1<;>grind
theorem rB(t b:ah)(i:Nat)(d:bS)(j:Nat):(dE t b i d j).a.q=cC (bF b i j) (vP d):=by
 rw[dE,aAB,VM];rfl
theorem rA(t b:ah)(i:Nat)(d:bS)(j:Nat):(dE t b i d j).b.q=cL (vP d):=rfl
theorem rz(t b:ah)(i:Nat)(d:bS)(j:Nat):(dE t b i d j).d.q=bU t.aC (bF b i j) (vP d):=YD t b i d j
structure jJ(t b:ah)(i:Nat)(d:bS)(j:Nat):Prop where
 S:Sz t t.aC (bF b i j) (vP d) (vP (b.sp j).pt)
 u:0<bU t.aC (bF b i j) (vP d)
 rp:1<=t.aC
 jl:j<b.aj.length
 three:3<=t.cs.length
 cl:t.cs.length<=1000000
 cv:t.ga=true
theorem FP{t b:ah}{ar:List Nat}{d:bS}{i j:Nat}{x:XD}{e:Rat}(h:yn t b ar d i x e)(g:some j=gH t b i (vP d) e b.aj.length):jJ t b i d j:=by
 obtain⟨c,hc⟩:=zg _ _ _ _ _ _ _ g.symm;obtain⟨r0,r1⟩:=lG h.C.eZ;obtain⟨l,m,hn,f⟩:=mn h.C.eZ;rw[jr,a1,a1,tU,a1,decide_eq_true_eq,decide_eq_true_eq]at hc;have a:=hc.2.1.2;have k:0<bU t.aC (bF b i j) (vP d):=by
  rw[bE]at a;generalize bU t.aC (bF b i j) (vP d)=u at*
  split at a
  ·exact absurd a d_
  ·split at a
   ·exact absurd a d_
   ·grind
 exact⟨⟨hn,o_,o_,eB (h.C.at c).2 (h.C.at h.C.ci.2.1).2,h.dk,(h.C.at c).2,h.nz⟩,k,r0,c,l,h.C.tl,f⟩
theorem jJ.okB{t b:ah}{i j:Nat}{d:bS}(h:jJ t b i d j):okB 900 (dE t b i d j):=
 ⟨by rw[rB];exact(zm h.S.ow h.S.od).mono d_,by rw[rA];exact(zl h.S.od).mono d_,by rw[rz];exact(wM h.S.r0 h.S.r1 h.S.ow h.S.od).mono d_⟩
theorem jJ.end{t b:ah}{i j:Nat}{d:bS}(h:jJ t b i d j):∃k c l,k<t.cs.length/\0<bW (ez t (cC (bF b i j) (vP d)) (cL (vP d)) (bU t.aC (bF b i j) (vP d)) k)/\
 t.fK (.from (b.sp j).pt) (dE t b i d j) t.cs.length=c::l/\iT c l=t.bD (.from (b.sp j).pt) (dE t b i d j) k/\
 jN t (vP (b.sp j).pt) (cC (bF b i j) (vP d)) (cL (vP d)) (bU t.aC (bF b i j) (vP d)) t.cs.length=some k:=by
 have g:0<(dE t b i d j).d.q:=by rw[rz];exact h.u
 have f:=LC t (.from (b.sp j).pt) (dE t b i d j) g t.cs.length;have n:(0:Rat)<bH t.aC:=by
  have s:=L6 h.rp;have v:(0:Rat)<=bH t.aC:=by
   rw[bH];have:=(xV h.S.r0 h.S.r1).1;exact Rat.intCast_nonneg.2 this
  grind
 obtain⟨i0,p,r⟩:=YH t (dE t b i d j).a.q (dE t b i d j).b.q g h.three h.cv n (by rw[rB,rA,rz];exact Yu t.aC _ _ h.S.hz) (by rw[rB,rA];exact Yv _ _ h.S.hz);have o:t.fK (.from (b.sp j).pt) (dE t b i d j) t.cs.length≠[]:=by
  intro e;rw[ah.fK,List.map_eq_nil_iff,List.filter_eq_nil_iff]at e;exact e i0 (c9.2 p) (by rw[Lv];exact decide_eq_true r)
 rw[rB,rA,rz,fe]at f;generalize t.fK (.from (b.sp j).pt) (dE t b i d j) t.cs.length=L at*;cases L with
 |nil=>exact absurd rfl o
 |cons c l=>
  obtain⟨k,m,a2,a3,a4⟩:=f;exact⟨k,c,l,m,a2,rfl,a3,a4⟩
theorem YP{t b:ah}{i j:Nat}{d:bS}(h:jJ t b i d j):al prog 84 [pT (lU t b i d j)] (kj (dE t b i d j)):=
 aKP (lU t b i d j) (by rw[VM];exact h.S.ow.mono d_) (by show aS 100 (NV.from d).q;rw[fe];exact h.S.od.mono d_) h.S.hz
theorem N1(t:ah)(p:NV)(n:NB)(k:Nat):(t.bD p n k).s.q=ez t n.a.q n.b.q n.d.q k:=B3 t n k
theorem jJ.dm{t b:ah}{i j k:Nat}{d:bS}(h:jJ t b i d j)(_hk:k<t.cs.length):
 ((t.bD (.from (b.sp j).pt) (dE t b i d j) k).s.under (t.bD (.from (b.sp j).pt) (dE t b i d j) k).g).q=eC t (vP (b.sp j).pt) (cC (bF b i j) (vP d)) (cL (vP d)) (bU t.aC (bF b i j) (vP d)) k:=by
 rw[aQ1,FK,N1,rB,rA,rz,fe,eC]
theorem jJ.norm{t b:ah}{i j k:Nat}{d:bS}(h:jJ t b i d j)(hs:0<bW (ez t (cC (bF b i j) (vP d)) (cL (vP d)) (bU t.aC (bF b i j) (vP d)) k)):
 (t.bD (.from (b.sp j).pt) (dE t b i d j) k).s.norm.q=0->(t.bD (.from (b.sp j).pt) (dE t b i d j) k).s.a.q≠0:=by
 have hq:(t.bD (.from (b.sp j).pt) (dE t b i d j) k).s.q=ez t (cC (bF b i j) (vP d)) (cL (vP d)) (bU t.aC (bF b i j) (vP d)) k:=by rw[N1,rB,rA,rz]
 rw[<-hq]at hs;have g:0<(t.bD (.from (b.sp j).pt) (dE t b i d j) k).s.q.d:=by rw[hq];exact h.u
 generalize (t.bD (.from (b.sp j).pt) (dE t b i d j) k).s=s at*;intro hn;have f:s.q.a*s.q.a-s.q.b*s.q.b*s.q.d=0:=hn▸(show s.q.a*s.q.a-s.q.b*s.q.b*s.q.d=s.norm.q from(NF.dJ (s.a.mul s.a) ((s.b.mul s.b).mul s.d)).symm);have c:0<s.a.q:=(yZ ((zj g).1 hs) f).1;intro e;rw[e]at c;exact absurd c d_
theorem jJ.aLX{t b:ah}{i j k:Nat}{d:bS}(h:jJ t b i d j)(hk:k<t.cs.length):dK 1300 ((t.bD (.from (b.sp j).pt) (dE t b i d j) k).s.under (t.bD (.from (b.sp j).pt) (dE t b i d j) k).g):=by
 have c:=h.dm hk;have a:=wO h.S hk;rw[<-c]at a;exact a
theorem jJ.me{t b:ah}{i j k:Nat}{d:bS}(h:jJ t b i d j)(hk:k<t.cs.length):me (t.bD (.from (b.sp j).pt) (dE t b i d j) k):=
 yT h.cl h.S.hn (by rw[fe];exact h.S.op.mono d_) h.okB hk
theorem wK{t:ah}(d:3<=t.cs.length)(hc:t.ga=true){k:Nat}(hk:k<t.cs.length):(t.bC k).dot (t.bC k)≠0:=by
 intro e;obtain⟨b,c⟩:=L7 e;have f:t.at k≠t.at (t.nx k):=fun h=>by
  have a:=Kj d hk (t.kM o_ k) (by
   rw[ah.nx];rcases db (k+1) t.cs.length with h|h
   ·rw[da h];omega
   ·rw[show k+1=t.cs.length by omega,dg];omega) h
  rw[hc]at a;exact absurd a d_
 have e1:=T8 (show((t.at (t.nx k)).x:Rat)-((t.at k).x:Rat)=0 from b);have e2:=T8 (show((t.at (t.nx k)).y:Rat)-((t.at k).y:Rat)=0 from c);have g:=ey.1 e1;have i:=ey.1 e2;apply f;generalize t.at k=P,t.at (t.nx k)=Q at*;cases P;cases Q;simp_all
theorem aKF{t b:ah}{i j k:Nat}{d:bS}{a:XD}{l:List XD}(h:jJ t b i d j)(c:t.fK (.from (b.sp j).pt) (dE t b i d j) t.cs.length=a::l)(e:iT a l=t.bD (.from (b.sp j).pt) (dE t b i d j) k):
 al prog 77 [cB t,bQ (.from (b.sp j).pt),kj (dE t b i d j)] (ig (t.bD (.from (b.sp j).pt) (dE t b i d j) k)):=by
 have:=ID t (.from (b.sp j).pt) (dE t b i d j) h.cl h.S.hn (by rw[fe];exact h.S.op.mono d_) h.okB a l c
 rwa [e]at this
noncomputable def yE(t b:ah)(i:Nat)(d:bS)(j k:Nat):NS:=(t.bD (.from (b.sp j).pt) (dE t b i d j) k).share (.from (b.sp j).pt) (dE t b i d j)
theorem Wg{t b:ah}{i j k:Nat}{d:bS}(h:jJ t b i d j)(hk:k<t.cs.length):(yE t b i d j k).q=q8 t (vP (b.sp j).pt) (cC (bF b i j) (vP d)) (cL (vP d)) (bU t.aC (bF b i j) (vP d)) k:=by
 have hf:=h.dm hk;have e:(t.bD (.from (b.sp j).pt) (dE t b i d j) k).w.q=t.bC k:=ah.rl t k;have c:(t.bD (.from (b.sp j).pt) (dE t b i d j) k).a.q=c7 (t.at k):=rfl;have l:=rB t b i d j;have m:=rA t b i d j;have o:=rz t b i d j;rw[yE,XD.share,q8,<-hf,<-e,<-c,<-l,<-m,<-o,<-fe];generalize (t.bD (.from (b.sp j).pt) (dE t b i d j) k).s.under (t.bD (.from (b.sp j).pt) (dE t b i d j) k).g=f;generalize (t.bD (.from (b.sp j).pt) (dE t b i d j) k).w=w;generalize (t.bD (.from (b.sp j).pt) (dE t b i d j) k).a=a;generalize dE t b i d j=n;generalize NV.from (b.sp j).pt=p;have hs:((p.sub a).dot w).q=(p.q.sub a.q).dot w.q:=by rw[NV.fU,NV.dJ]
 rw[<-hs];show S3.mk ((f.a.q*(n.a.q.dot w.q)+f.b.q*(n.b.q.dot w.q)*f.d.q+((p.sub a).dot w).q)*(w.q.dot w.q)⁻¹) ((f.a.q*(n.b.q.dot w.q)+(n.a.q.dot w.q)*f.b.q+((0:Int):Rat))*(w.q.dot w.q)⁻¹) f.d.q=S3.mk ((w.q.dot w.q)⁻¹*(f.a.q*(n.a.q.dot w.q)+f.b.q*(n.b.q.dot w.q)*f.d.q+((p.sub a).dot w).q)) ((w.q.dot w.q)⁻¹*(f.a.q*(n.b.q.dot w.q)+(n.a.q.dot w.q)*f.b.q)) f.d.q;rw[show((0:Int):Rat)=0 from rfl];congr 1<;>grind
theorem YN{t b:ah}{i j k:Nat}{d:bS}(h:jJ t b i d j)(hk:k<t.cs.length)(hs:0<bW (ez t (cC (bF b i j) (vP d)) (cL (vP d)) (bU t.aC (bF b i j) (vP d)) k)):
 al prog 101 [ig (t.bD (.from (b.sp j).pt) (dE t b i d j) k),bQ (.from (b.sp j).pt),kj (dE t b i d j)] (ct (yE t b i d j k)):=by
 have a:(t.bD (.from (b.sp j).pt) (dE t b i d j) k).w.q=t.bC k:=ah.rl t k;refine Mc _ (.from (b.sp j).pt) (dE t b i d j) (h.me hk) (h.norm hs) (h.aLX hk) (by rw[a];exact ah.okW h.S.hn hk) (gE (ah.eg h.S.hn hk)) (by rw[fe];exact h.S.op.mono d_) h.okB ?_;rw[NV.fU,a];exact wK h.three h.cv hk
theorem aQg{t b:ah}{i j k:Nat}{d:bS}(h:jJ t b i d j)(hk:k<t.cs.length)(hs:0<bW (ez t (cC (bF b i j) (vP d)) (cL (vP d)) (bU t.aC (bF b i j) (vP d)) k)):dK 1800 (yE t b i d j k):=by
 have a:=L9 h.S hk h.u (wK h.three h.cv hk) hs;rw[<-Wg h hk]at a;exact a
def dO(f:Nat->Bool):Nat->Nat
 |0=>0
 |n+1=>if dO f n<n then dO f n else if f n=true then n else n+1
theorem oY(f:Nat->Bool):∀n,dO f n<=n/\(∀i,i<dO f n->f i=false)/\(dO f n<n->f (dO f n)=true)
 |0=>⟨ea _,fun i h=>absurd h (dx _),fun h=>absurd h (dx _)⟩
 |n+1=>by
  obtain⟨g,a,b⟩:=oY f n;rw[dO]
  by_cases c:dO f n<n
  ·rw[if_pos c];exact⟨o_,a,fun _=>b c⟩
  ·rw[if_neg c];have e:dO f n=n:=by omega
   rw[e]at a
   by_cases d:f n=true
   ·rw[if_pos d];exact⟨o_,a,fun _=>d⟩
   ·rw[if_neg d];refine⟨ea _,fun i hi=>?_,fun h=>absurd h (Nat.lt_irrefl _)⟩
    by_cases e2:i=n
    ·rw[e2];simpa using d
    ·exact a i o_
theorem zd{f:Nat->Bool}{n i:Nat}(b:i<=dO f n)(c:i<n)(a:f i=true):dO f n=i:=by
 obtain⟨k1,k2,k3⟩:=oY f n;rcases db i (dO f n)with h|h
 ·rw[k2 i h]at a;cases a
 ·omega
theorem yV{f:Nat->Bool}{n i:Nat}(b:i<=dO f n)(c:i<n)(a:f i=false):i+1<=dO f n:=by
 obtain⟨k1,k2,k3⟩:=oY f n;rcases db i (dO f n)with h|h
 ·omega
 ·have e:dO f n=i:=by omega
  have:=k3 o_;rw[e,a]at this;cases this
theorem Fv{f g:Nat->Bool}:∀{n:Nat},(∀i,i<n->f i=g i)->dO f n=dO g n
 |0,_=>rfl
 |n+1,h=>by rw[dO,dO,Fv (fun i hi=>h i o_),h n o_]
def jA(k n:Nat):Int:=if k<n then k else -1
def ah.shr(t:ah)(i:Nat)(v:V2):Rat:=((v.sub (c7 (t.at i))).dot (t.bC i))/((t.bC i).dot (t.bC i))
theorem Yp(t:ah)(i:Nat)(v:V2)(h:t.cs.length<=1000000)(hn:∀p∈t.cs,eH p)(hi:i<t.cs.length)(c:aS 3000 v)(d:(t.bC i).dot (t.bC i)≠0):al prog 122 [cA t,.int .i64 i,eV v] (.str (aN (t.shr i v))):=by
 have g:=ah.get hi;have b:=gE (ah.eg hn hi);have q:=gE (ah.eg hn (t.kM o_ i));have a:=ah.okW hn hi;have j:=wy (t.at i) (ah.eg hn hi);have k:=BX t i hi h;have l:=wy (t.at (t.nx i)) (ah.eg hn (t.kM o_ i));have e:=lj (c7 (t.at (t.nx i))) (c7 (t.at i)) (q.mono d_) (b.mono d_);rw[show(c7 (t.at (t.nx i))).sub (c7 (t.at i))=t.bC i from rfl]at e;have m:=lj v (c7 (t.at i)) (c.mono d_) (b.mono d_);have n:=sJ (v.sub (c7 (t.at i))) (t.bC i) ((eB c b).mono d_) (a.mono d_);have o:=pC (t.bC i) (a.mono d_);have f:=nH ((v.sub (c7 (t.at i))).dot (t.bC i)) ((t.bC i).dot (t.bC i)) ((cR (eB c b) a).mono d_) ((cR a a).mono d_) d;rw[show((v.sub (c7 (t.at i))).dot (t.bC i))/((t.bC i).dot (t.bC i))=t.shr i v from rfl]at f;refine gA_ nf func122 mix ?_;clear d;generalize t.shr i v=r,(v.sub (c7 (t.at i))).dot (t.bC i)=u,(t.bC i).dot (t.bC i)=s,t.bC i=w,v.sub (c7 (t.at i))=y at*;simp+decide (maxDischargeDepth:=99) [f122,aa,g,hi,e1 j,e2 k,e1 l,c2_ e,e2 m,e2 n,e1 o,e2 f]
def ah.pv(t:ah)(i:Nat):Nat:=(i+t.cs.length-1)% t.cs.length
def IW(p:du)(i:Nat)(s:List Nat):Bool:=decide (p.cV=i)&&(decide (cr (aO p.a) (aO s)<=0)&&decide (cr (aO s) (aO p.b)<=0))
theorem B6{a n:Nat}:((a:Nat):Int).tmod (n:Int)=((a% n:Nat):Int):=by
 rw[Int.natCast_emod,Int.tmod_eq_emod_of_nonneg o_]
def kh(t:ah)(p:du)(m:Nat):Bool:=(decide (p.cV=(m% t.cs.length:Nat))&&decide (p.a=[48]))||(decide (p.cV=((m+t.cs.length-1)% t.cs.length:Nat))&&decide (p.b=[49]))
theorem B8(t:ah)(p:du)(m:Nat)(n:t.cs.length<=1000000)(j:0<t.cs.length)(o:m<=t.cs.length):al prog 213 [cA t,fV p,.int .i64 m] (.bool (kh t p m)):=by
 have hn:¬t.cs.length=0:=o_
 have b:¬t.cs=[]:=by intro e;rw[e]at j;simp at j
 have c:be.wrap ((m:Int)+(t.cs.length:Int))=(m:Int)+(t.cs.length:Int):=aU _ o_ o_;have d:be.wrap ((m:Int)+(t.cs.length:Int)-1)=(m:Int)+(t.cs.length:Int)-1:=aU _ o_ o_;have e1:(m:Int).tmod (t.cs.length:Int)=((m% t.cs.length:Nat):Int):=B6;have e2:((m:Int)+(t.cs.length:Int)-1).tmod (t.cs.length:Int)=(((m+t.cs.length-1)% t.cs.length:Nat):Int):=by
  rw[<-B6,show((m:Int)+(t.cs.length:Int)-1)=((m+t.cs.length-1:Nat):Int)from by omega]
 rw[kh];generalize (m+t.cs.length-1)% t.cs.length=y1,m% t.cs.length=y2 at*;obtain⟨k,pe,i,g⟩:=p;rw[show fV ⟨k,pe,i,g⟩=.st 108 [.str k,.int .i64 pe,.str i,.str g]from rfl];refine gA_ nf func213 mix ?_
 by_cases r1:pe=y2
 ·by_cases h:i=[48]
  ·simp[f213,aa,hn,b,c,d,e1,e2,r1,h]
  ·by_cases a:y2=y1
   ·by_cases f:g=[49]
    ·simp[f213,aa,hn,b,c,d,e1,e2,r1,h,a,f]
    ·simp[f213,aa,hn,b,c,d,e1,e2,r1,h,a,f]
   ·have l:¬(y2:Int)=y1:=by omega
    simp[f213,aa,hn,b,c,d,e1,e2,r1,h,a,l]
 ·by_cases a:pe=y1
  ·rw[a]at r1
   by_cases f:g=[49]
   ·simp[f213,aa,hn,b,c,d,e1,e2,r1,a,f]
   ·simp[f213,aa,hn,b,c,d,e1,e2,r1,a,f]
  ·simp[f213,aa,hn,b,c,d,e1,e2,r1,a]
def lF(t:ah)(p:du)(i:Nat)(s:List Nat):Bool:=(IW p i s||(decide (s=[48])&&kh t p i))||(decide (s=[49])&&kh t p (i+1))
theorem XO(t:ah)(i:Nat)(s:List Nat)(q:t.cs.length<=1000000)(A:t.aK.length<=1000000)(y:i<t.cs.length)(r:∀p∈t.aK,rq p)(m:cm s=0):al prog 121 [cA t,.int .i64 i,.str s] (.int .i64 (jA (dO (fun j=>lF t (t.pk j) i s) t.aK.length) t.aK.length)):=by
 have w1:be.wrap ((i:Int)+1)=(i:Int)+1:=aU _ o_ o_;refine gA_ nf func121 mix ?_;simp[f121,aa];refine lp (α:=Nat) (fun j=>⟨[(7,.p (.int .i64 j)),(3,.ptr 0 []),(2,.p (.str s)),(1,.p (.int .i64 i))],[.box false (.p (cA t))]⟩) (fun j=>j<=t.aK.length/\j<=dO (fun j=>lF t (t.pk j) i s) t.aK.length) (fun j=>t.aK.length-j) 0 s_ ?_;rintro j ⟨x,n⟩
 by_cases hi:j<t.aK.length
 ·have d:=ah.jo hi;have e:=b8 (i:=j) o_;obtain⟨_,z1,z2⟩:=r _ (bv d);have l:lF t (t.pk j) i s=true->jA (dO (fun j=>lF t (t.pk j) i s) t.aK.length) t.aK.length=(j:Int):=fun h=>by
   rw[zd n hi h,jA,if_pos hi]
  have k:lF t (t.pk j) i s=false->j+1<=t.aK.length/\j+1<=dO (fun j=>lF t (t.pk j) i s) t.aK.length:=fun h=>⟨hi,yV n hi h⟩
  have k4:=oL (aO (t.pk j).a) (aO s) ((gN z1).mono d_) ((gN m).mono d_);have k5:=oL (aO s) (aO (t.pk j).b) ((gN m).mono d_) ((gN z2).mono d_);have k6:=B8 t (t.pk j) i q o_ o_;have k7:=B8 t (t.pk j) (i+1) q o_ o_;rw[show((i+1:Nat):Int)=(i:Int)+1 from rfl]at k7;rw[(ia z1).1,(ia m).1]at k4;rw[(ia z2).1,(ia m).1]at k5;generalize jA (dO (fun j=>lF t (t.pk j) i s) t.aK.length) t.aK.length=w at*;rw[lF,IW]at l k;generalize cr (aO (t.pk j).a) (aO s)=u,cr (aO s) (aO (t.pk j).b)=v at*
  by_cases r1:(t.pk j).cV=i
  ·by_cases c:u<=0
   ·by_cases f:v<=0
    ·have B:=f;have g:=l (by simp[r1,c,f]);simp(maxDischargeDepth:=99) [hi,d,w1,aa,r1,c,f,g,c2_ k4,c2_ k5]
    by_cases z:s=[48]
    ·subst z;rcases q0:kh t (t.pk j) i with _|_
     ·rw[q0]at k6;simp[hi,d,w1,aa,r1,c,f,q0,e];refine c2_ k4 ?_;simp[hi,d,w1,aa,r1,c,f,q0,e];refine c2_ k5 ?_;simp[hi,d,w1,aa,r1,c,f,q0,e];refine c3_ k6 ?_;simp[hi,d,w1,aa,r1,c,f,q0,e];exact rd (j+1) (k (by simp[r1,c,f,q0]))
     ·rw[q0]at k6;have g:=l (by simp[r1,c,f,q0]);simp(maxDischargeDepth:=99) [hi,d,w1,aa,r1,c,f,q0,g,c2_ k4,c2_ k5,c3_ k6]
    by_cases o:s=[49]
    ·subst o;rcases q1:kh t (t.pk j) (i+1)with _|_
     ·rw[q1]at k7;simp[hi,d,w1,aa,r1,c,f,q1,e];refine c2_ k4 ?_;simp[hi,d,w1,aa,r1,c,f,q1,e];refine c2_ k5 ?_;simp[hi,d,w1,aa,r1,c,f,q1,e];refine c3_ k7 ?_;simp[hi,d,w1,aa,r1,c,f,q1,e];exact rd (j+1) (k (by simp[r1,c,f,q1]))
     ·rw[q1]at k7;have g:=l (by simp[r1,c,f,q1]);simp(maxDischargeDepth:=99) [hi,d,w1,aa,r1,c,f,q1,g,c2_ k4,c2_ k5,c3_ k7]
    simp[hi,d,w1,aa,r1,c,f,z,o,e];refine c2_ k4 ?_;simp[hi,d,w1,aa,r1,c,f,z,o,e];refine c2_ k5 ?_;simp[hi,d,w1,aa,r1,c,f,z,o,e];exact rd (j+1) (k (by simp[r1,c,f,z,o]))
   by_cases z:s=[48]
   ·subst z;rcases q0:kh t (t.pk j) i with _|_
    ·rw[q0]at k6;simp[hi,d,w1,aa,r1,c,q0,e];refine c2_ k4 ?_;simp[hi,d,w1,aa,r1,c,q0,e];refine c3_ k6 ?_;simp[hi,d,w1,aa,r1,c,q0,e];exact rd (j+1) (k (by simp[r1,c,q0]))
    ·rw[q0]at k6;have g:=l (by simp[r1,c,q0]);simp(maxDischargeDepth:=99) [hi,d,w1,aa,r1,c,q0,g,c2_ k4,c3_ k6]
   by_cases o:s=[49]
   ·subst o;rcases q1:kh t (t.pk j) (i+1)with _|_
    ·rw[q1]at k7;simp[hi,d,w1,aa,r1,c,q1,e];refine c2_ k4 ?_;simp[hi,d,w1,aa,r1,c,q1,e];refine c3_ k7 ?_;simp[hi,d,w1,aa,r1,c,q1,e];exact rd (j+1) (k (by simp[r1,c,q1]))
    ·rw[q1]at k7;have g:=l (by simp[r1,c,q1]);simp(maxDischargeDepth:=99) [hi,d,w1,aa,r1,c,q1,g,c2_ k4,c3_ k7]
   simp[hi,d,w1,aa,r1,c,z,o,e];refine c2_ k4 ?_;simp[hi,d,w1,aa,r1,c,z,o,e];exact rd (j+1) (k (by simp[r1,c,z,o]))
  by_cases z:s=[48]
  ·subst z;rcases q0:kh t (t.pk j) i with _|_
   ·rw[q0]at k6;simp[hi,d,w1,aa,r1,q0,e];refine c3_ k6 ?_;simp[hi,d,w1,aa,r1,q0,e];exact rd (j+1) (k (by simp[r1,q0]))
   ·rw[q0]at k6;have g:=l (by simp[r1,q0]);simp(maxDischargeDepth:=99) [hi,d,w1,aa,r1,q0,g,c3_ k6]
  by_cases o:s=[49]
  ·subst o;rcases q1:kh t (t.pk j) (i+1)with _|_
   ·rw[q1]at k7;simp[hi,d,w1,aa,r1,q1,e];refine c3_ k7 ?_;simp[hi,d,w1,aa,r1,q1,e];exact rd (j+1) (k (by simp[r1,q1]))
   ·rw[q1]at k7;have g:=l (by simp[r1,q1]);simp(maxDischargeDepth:=99) [hi,d,w1,aa,r1,q1,g,c3_ k7]
  simp[hi,d,w1,aa,r1,z,o,e];exact rd (j+1) (k (by simp[r1,z,o]))
 ·have:j=t.aK.length:=by omega
  subst this;have:=oY (fun j=>lF t (t.pk j) i s) t.aK.length;have g:jA (dO (fun j=>lF t (t.pk j) i s) t.aK.length) t.aK.length= -1:=by rw[jA,if_neg o_]
  simp[g,aa]
theorem zk{t:ah}(h:gd t=0){j:Nat}(c:j<t.aK.length):gY t.cs.length (t.aK.take j) (t.pk j)=0:=by
 rw[Fa]at h
 split at h
 case isFalse=>contradiction
 split at h
 case isFalse=>contradiction
 rename_i d b;rw[sY,rY]at b;have a:=b (mq 12 (gY t.cs.length) t.aK) s_;rw[mq]at a
 split at a
 ·cases a
 have:=rk.1 a j c
 rwa [iC,ah.jo c]at this
theorem MW{q:Rat}(h:fO q=0):0<=q/\q<=1:=by
 rw[fO]at h
 split at h
 ·cases h
 rename_i c;have c1:¬bE q<0:=fun h=>c (.inl h);have c2:¬0<cr q 1:=fun h=>c (.inr h);constructor
 ·apply e8.1;intro hq;rw[ri hq]at c1;exact c1 d_
 ·apply e8.1;intro hq;rw[LV hq]at c2;exact c2 d_
theorem aPk{n:Nat}{d:List du}{p:du}(h:gY n d p=0):0<=aO p.a/\aO p.a<=aO p.b/\aO p.b<=1/\0<=p.cV/\p.cV<n:=by
 rw[gY]at h
 split at h
 ·cases h
 split at h
 ·cases h
 split at h
 ·cases h
 rename_i e1
 split at h
 ·contradiction
 split at h
 ·contradiction
 split at h
 ·contradiction
 rename_i e2
 split at h
 ·cases h
 rename_i e3;have c:fO (aO p.a)=0/\fO (aO p.b)=0:=by
  rcases BK (aO p.a)with a|a<;>rcases BK (aO p.b)with b|b<;>rw[a,b]at e2<;>first|exact⟨a,b⟩|(exfalso;exact e2 d_)
 refine⟨(MW c.1).1,?_,(MW c.2).2,o_,o_⟩;apply e8.1;intro hq;rw[LV hq]at e3;exact e3 d_
theorem aQ2:aO [48]=0:=by rw[<-pI,xW]
theorem Wy:aO [49]=1:=by rw[<-yJ,xW]
theorem FG{t:ah}(c:fu t)(h:gd t=0):∀p∈t.aK,rq p:=by
 intro p b;obtain⟨j,a,rfl⟩:=List.mem_iff_getElem.1 b;have:=BR (zk h a);rw[ah.EL];exact⟨c.pk _ (bv (ah.jo a)),this.1,this.2⟩
def dX(s:S3)(x:Rat):Int:=bW ⟨s.a-x,s.b,s.d⟩
theorem Jr(a o:Int):jB a 0 o=a:=by
 rw[jB,bi,if_pos d_]
 split
 ·rename_i h;exact h.symm
 ·rfl
theorem wG(s:S3)(x:Rat):dU s ⟨x,0,0⟩=dX s x:=by
 rw[dU];dsimp only;rw[rC,bi,Int.neg_zero,Jr];rfl
theorem yX(u v:Rat):cr u v=bE (u-v):=by
 rw[cr,bE]
 by_cases h:u<v
 ·rw[if_pos h,if_pos (show u-v<0 by grind)]
 ·rw[if_neg h,if_neg (show¬u-v<0 by grind)]
  by_cases a:u=v
  ·rw[if_pos a,if_pos (show u-v=0 by grind)]
  ·rw[if_neg a,if_neg (show¬u-v=0 by grind)]
theorem MX(y b:Rat):bW ⟨y,b,0⟩=bE y:=by
 rw[bW];dsimp only;rw[rC,bi,Jr]
theorem Lx(s:S3)(x:Rat):dU ⟨x,0,0⟩ s= -dX s x:=by
 rw[dX,<-Mb,dU];dsimp only;rw[MX,MX,bW];dsimp only;rw[zi s.b,bf,yX];rw[show -(s.a-x)=x-s.a by grind,show(x-s.a)*(x-s.a)+0*0*0-s.b*s.b*s.d=(x-s.a)*(x-s.a)- -s.b* -s.b*s.d by grind]
def mr(t:ah)(p:du)(i:Nat)(s:S3):Bool:=(decide (p.cV=i)&&(decide (dU ⟨aO p.a,0,0⟩ s<=0)&&decide (dU s ⟨aO p.b,0,0⟩<=0)))||((decide (dU s ⟨0,0,0⟩=0)&&kh t p i)||(decide (dU s ⟨1,0,0⟩=0)&&kh t p (i+1)))
def pU(p:du)(s:S3):Bool:=decide (0<=dX s (aO p.a))&&decide (dX s (aO p.b)<=0)
def ks(t:ah)(p:du)(i:Nat)(s:S3):Bool:=if p.cV=i then pU p s else if dX s 1=0 then(if p.cV=t.nx i then pU p ⟨0,0,s.d⟩else false)else if dX s 0=0 then(if p.cV=t.pv i then pU p ⟨1,0,s.d⟩else false)else false
theorem rF(c x d:Rat):dX ⟨c,0,d⟩ x=bE (c-x):=by
 rw[dX,bW];dsimp only;rw[rC,bp,Jr]
theorem B4{s:S3}(c:0<s.d){x:Rat}(h:dX s x=0):Nl s.d (s.a-x) s.b:=
 ⟨(uE c).1 (by rw[<-dX.eq_def,h];decide),(uD c).1 (by rw[<-dX.eq_def,h];decide)⟩
theorem VX{d x:Rat}(h:0<=x):Pd d x 0:=.inl ⟨h,by have:=sq_nonneg x;grind⟩
theorem aQb{s:S3}(b:0<s.d){x y:Rat}(h:dX s x=0)(c:x<=y):dX s y<=0:=by
 refine(uD b).2 ?_;have:=Pd.add b (B4 b h).2 (VX (x:=y-x) (by grind))
 rwa [show -(s.a-x)+(y-x)= -(s.a-y)by grind,ej]at this
theorem aQa{s:S3}(b:0<s.d){x y:Rat}(h:dX s x=0)(c:y<=x):0<=dX s y:=by
 refine(uE b).2 ?_;have:=Pd.add b (B4 b h).1 (VX (x:=x-y) (by grind))
 rwa [show s.a-x+(x-y)=s.a-y by grind,ej]at this
theorem aP9{s:S3}(c:0<s.d)(e:dX s 0=0)(f:dX s 1=0):False:=by
 have:=(Pd.add c (B4 c e).2 (B4 c f).1)
 rw[show -(s.a-0)+(s.a-1)= -1 by grind,show -s.b+s.b=0 by grind]at this;rcases this with⟨h,_⟩|⟨_,h⟩
 ·exact absurd h d_
 ·grind
theorem LS{x:Rat}:0<=bE x↔0<=x:=by
 have:=FA (x:=x) (y:=0);rw[yX]at this
 rwa [show x-0=x by grind]at this
theorem LR{x:Rat}:bE x<=0↔x<=0:=by
 have:=Fz (x:=x) (y:=0);rw[yX]at this
 rwa [show x-0=x by grind]at this
theorem Li{t:ah}{p:du}{i n:Nat}{s:S3}{z:List du}(m:gY n z p=0)(G:3<=t.cs.length)(hi:i<t.cs.length)(l:0<s.d):mr t p i s=ks t p i s:=by
 obtain⟨a0,x,y,e0,e1⟩:=aPk m;obtain⟨z1,z2⟩:=BR m;have j:p.a=[48]↔aO p.a=0:=⟨fun h=>by rw[h,aQ2],fun h=>by rw[<-(ia z1).1,h,pI]⟩
 have k:p.b=[49]↔aO p.b=1:=⟨fun h=>by rw[h,Wy],fun h=>by rw[<-(ia z2).1,h,yJ]⟩
 have c0:kh t p i=((decide (p.cV=i)&&decide (aO p.a=0))||(decide (p.cV=(t.pv i:Nat))&&decide (aO p.b=1))):=by
  rw[kh,da hi,ah.pv];simp only[j,k]
 have c1:kh t p (i+1)=((decide (p.cV=(t.nx i:Nat))&&decide (aO p.a=0))||(decide (p.cV=i)&&decide (aO p.b=1))):=by
  rw[kh,show i+1+t.cs.length-1=i+t.cs.length by omega,dp,da hi,ah.nx];simp only[j,k]
 have H:t.nx i≠i:=by
  rw[ah.nx];rcases db (i+1) t.cs.length with h|h
  ·rw[da h];omega
  ·rw[show i+1=t.cs.length by omega,dg];omega
 have I:t.pv i≠i:=by
  rw[ah.pv];rcases dq i with h|h
  ·subst h;rw[da o_];omega
  ·rw[show i+t.cs.length-1=i-1+t.cs.length by omega,dp,da o_];omega
 have r:pU p ⟨0,0,s.d⟩=decide (aO p.a=0):=by
  rw[pU,rF,rF];have f:0<=bE (0-aO p.a)↔aO p.a=0:=by rw[LS];constructor<;>intro h<;>grind
  have g:bE (0-aO p.b)<=0:=LR.2 (by grind);simp[f,g]
 have u:pU p ⟨1,0,s.d⟩=decide (aO p.b=1):=by
  rw[pU,rF,rF];have f:bE (1-aO p.b)<=0↔aO p.b=1:=by rw[LR];constructor<;>intro h<;>grind
  have g:0<=bE (1-aO p.a):=LS.2 (by grind);simp[f,g]
 rw[mr,ks,r,u,c0,c1,wG,wG,wG,Lx];have q:(-dX s (aO p.a)<=0)↔0<=dX s (aO p.a):=o_
 have C:dX s 0=0->dX s (aO p.b)<=0:=fun h=>aQb l h (by grind);have D:dX s 0=0->aO p.a=0->0<=dX s (aO p.a):=fun h e=>by rw[e,h];decide
 have g1:dX s 1=0->0<=dX s (aO p.a):=fun h=>aQa l h (by grind);have F:dX s 1=0->aO p.b=1->dX s (aO p.b)<=0:=fun h e=>by rw[e,h];decide
 have E:dX s 0=0->¬dX s 1=0:=fun h c=>aP9 l h c;rw[pU];simp only[q];clear j k c0 c1 r u z1 z2 q m e0 e1 a0 x y;generalize dX s 0=v,dX s 1=w,dX s (aO p.a)=L,dX s (aO p.b)=M at*;have A:p.cV=(i:Int)->¬p.cV=(t.nx i:Nat):=fun h c=>by omega
 have B:p.cV=(i:Int)->¬p.cV=(t.pv i:Nat):=fun h c=>by omega
 by_cases o:p.cV=(i:Int)
 ·have g1:=A o;have g2:=B o
  by_cases q0:v=0<;>by_cases q1:w=0<;>by_cases J:aO p.a=0<;>by_cases K:aO p.b=1<;>simp_all
 ·by_cases q0:v=0<;>by_cases q1:w=0<;>simp_all
theorem Ya{t:ah}(h:gd t=0){i:Nat}{s:S3}(hi:i<t.cs.length)(a:0<s.d):dO (fun j=>mr t (t.pk j) i s) t.aK.length=dO (fun j=>ks t (t.pk j) i s) t.aK.length:=
 Fv (fun j b=>Li (zk h b) (mn h).1 hi a)
def mj(t:ah)(i:Nat)(s:NS):List (Int×NS):=(i,s)::if dX s.q 1=0 then[((t.nx i:Nat),.plain (.int 0) s.d)]else if dX s.q 0=0 then[((t.pv i:Nat),.plain (.int 1) s.d)]else[]
noncomputable def ur(l:List (Int×NS)):List (PV×PV):=l.map fun x=>(.int .i64 x.1,ct x.2)
def q9(l:List (Int×NS))(e:Int):Option NS:=(l.find? fun x=>x.1==e).map (·.2)
theorem aLQ(T:TypeId)(a b:Int):qR prog T (.int .i64 a) (.int .i64 b)=some (decide (a=b)):=by
 simp[qR,ln];rw[Bool.eq_iff_iff];simp
@[simp] theorem LZ(T:TypeId)(e:Int):∀l:List (Int×NS),gw prog T (ur l) (.int .i64 e)=some ((q9 l e).map ct)
 |[]=>rfl
 |(a,s)::r=>by
  have b:=LZ T e r;rw[ur]at b;rw[ur,bw,gw,q9,b0];dsimp only;rw[aLQ]
  by_cases h:a=e
  ·subst h;simp
  ·have c:¬e=a:=fun x=>h x.symm;have d:(a==e)=false:=by simp[h]
   rw[q9]at b;simp only[c,decide_false,d];exact b
theorem aMo(t:ah)(p:du){i:Nat}(s:NS)(a:t.nx i≠i)(b:t.pv i≠i):ks t p i s.q=match q9 (mj t i s) p.cV with
  |none=>false
  |some v=>pU p v.q:=by
 rw[ks,mj,q9,b0]
 by_cases e0:p.cV=i
 ·have:((i:Int)==p.cV)=true:=by simp[e0]
  rw[if_pos e0,this];rfl
 ·have:((i:Int)==p.cV)=false:=by simp;omega
  rw[if_neg e0,this];dsimp only
  by_cases c1:dX s.q 1=0
  ·rw[if_pos c1,if_pos c1,b0]
   by_cases e1:p.cV=t.nx i
   ·have:(((t.nx i:Nat):Int)==p.cV)=true:=by simp[e1]
    rw[if_pos e1,this];rfl
   ·have:(((t.nx i:Nat):Int)==p.cV)=false:=by simp;omega
    rw[if_neg e1,this];rfl
  ·rw[if_neg c1,if_neg c1]
   by_cases c0:dX s.q 0=0
   ·rw[if_pos c0,if_pos c0,b0]
    by_cases e1:p.cV=t.pv i
    ·have:(((t.pv i:Nat):Int)==p.cV)=true:=by simp[e1]
     rw[if_pos e1,this];rfl
    ·have:(((t.pv i:Nat):Int)==p.cV)=false:=by simp;omega
     rw[if_neg e1,this];rfl
   ·rw[if_neg c0,if_neg c0];rfl
theorem aOP{t:ah}{i:Nat}{s:NS}(h:dK 1800 s):∀x∈mj t i s,dK 1800 x.2:=by
 have z:∀n:Int,n.natAbs<2^2->dK 1800 (.plain (.int n) s.d):=fun n hn=>⟨(ke hn d_:aL 2 (NF.int n).q).mono d_,(ke d_ d_:aL 2 (NF.int 0).q).mono d_,h.2.2⟩
 intro x hx;rw[mj]at hx;rcases List.mem_cons.1 hx with e|hx
 ·subst e;exact h
 ·split at hx
  ·rcases cc.1 hx with rfl;exact z 0 d_
  ·split at hx
   ·rcases cc.1 hx with rfl;exact z 1 d_
   ·exact absurd hx List.not_mem_nil
theorem aOQ{t:ah}{i:Nat}{s:NS}(h:dK 1800 s){e:Int}{v:NS}(a:q9 (mj t i s) e=some v):dK 1800 v:=by
 rw[q9,Option.map_eq_some_iff]at a;obtain⟨x,b,rfl⟩:=a;exact aOP h x (List.mem_of_find?_eq_some b)
theorem aP7(v:NS)(x:Rat):bW ((v.add (.plain (NF.neg ⟨x,false⟩) v.d)).q)=dX v.q x:=by
 show bW ⟨v.a.q+-x,v.b.q+((0:Int):Rat),v.d.q⟩=bW ⟨v.a.q-x,v.b.q,v.d.q⟩;rw[show((0:Int):Rat)=0 from rfl,ej,ei]
def yB(t:ah)(i:Nat)(s:NS):List Nat:=if dO (fun j=>ks t (t.pk j) i s.q) t.aK.length<t.aK.length then(t.pk (dO (fun j=>ks t (t.pk j) i s.q) t.aK.length)).name else[]
theorem Lp(t:ah)(i:Nat)(s:NS)(H:fu t)(K:gd t=0)(hi:i<t.cs.length)(hs:dK 1800 s):
 al prog 100 [cB t,.int .i64 i,ct s] (.str (yB t i s)):=by
 obtain⟨ax,ay,_,_⟩:=mn K;have av:=H.cl;have hn:¬t.cs.length=0:=o_
 have N:¬t.cs=[]:=by intro e;rw[e]at hi;simp at hi
 have w1:be.wrap ((i:Int)+1)=(i:Int)+1:=aU _ o_ o_;have U:be.wrap ((i:Int)+(t.cs.length:Int))=(i:Int)+(t.cs.length:Int):=aU _ o_ o_;have V:be.wrap ((i:Int)+(t.cs.length:Int)-1)=(i:Int)+(t.cs.length:Int)-1:=aU _ o_ o_;have e1:((i:Int)+1).tmod (t.cs.length:Int)=((t.nx i:Nat):Int):=by
  rw[ah.nx,<-B6];rfl
 have e2:((i:Int)+(t.cs.length:Int)-1).tmod (t.cs.length:Int)=((t.pv i:Nat):Int):=by
  rw[ah.pv,<-B6,show((i:Int)+(t.cs.length:Int)-1)=((i+t.cs.length-1:Nat):Int)from by omega]
 have Q:t.nx i≠i:=by
  rw[ah.nx];rcases db (i+1) t.cs.length with h|h
  ·rw[da h];omega
  ·rw[show i+1=t.cs.length by omega,dg];omega
 have S:t.pv i≠i:=by
  rw[ah.pv];rcases dq i with h|h
  ·subst h;rw[da o_];omega
  ·rw[show i+t.cs.length-1=i-1+t.cs.length by omega,dp,da o_];omega
 have z:∀n:Int,n.natAbs<2^2->dK 1800 (.plain (.int n) s.d):=fun n hn=>⟨(ke hn d_:aL 2 (NF.int n).q).mono d_,(ke d_ d_:aL 2 (NF.int 0).q).mono d_,hs.2.2⟩
 have B:=jx (-1) d_ d_;have C:=s8 (.int (-1)) s.d;have D:=s9 s (.plain (.int (-1)) s.d) (hs.mono d_) ((z (-1) d_).mono d_);have r:=oO (s.add (.plain (.int (-1)) s.d)) ((yY hs (z (-1) d_)).mono d_);have E:=oO s (hs.mono d_);have q1:bW (s.add (.plain (.int (-1)) s.d)).q=dX s.q 1:=by
  show bW ⟨s.a.q+((-1:Int):Rat),s.b.q+((0:Int):Rat),s.d.q⟩=bW ⟨s.a.q-1,s.b.q,s.d.q⟩;rw[show((0:Int):Rat)=0 from rfl,ej,ei];rfl
 have q0:bW s.q=dX s.q 0:=by
  show bW ⟨s.a.q,s.b.q,s.d.q⟩=bW ⟨s.a.q-0,s.b.q,s.d.q⟩;rw[show s.a.q-0=s.a.q by grind]
 rw[q1]at r;rw[q0]at E;have W:=jx 0 d_ d_;have X:=s8 (.int 0) s.d;have Y:=jx 1 d_ d_;have Z:=s8 (.int 1) s.d;have c:=fun e=>aMo t e s Q S;have G:∀(e:Int)(v:NS),q9 (mj t i s) e=some v->dK 1800 v:=fun e v h=>aOQ hs h;have ai:=FG H K;have F:=fun m=>@zd (fun j=>ks t (t.pk j) i s.q) t.aK.length m;have l:=fun m=>@yV (fun j=>ks t (t.pk j) i s.q) t.aK.length m;have au:=(oY (fun j=>ks t (t.pk j) i s.q) t.aK.length).1;have aw:=H.pl;rw[yB];generalize dO (fun j=>ks t (t.pk j) i s.q) t.aK.length=v at*;have M:∀(k:Nat)(v:NS),¬k=i->gR [(.int .i64 i,ct s)] (.int .i64 k) (ct v)=ur [((i:Int),s),((k:Int),v)]:=fun k v h=>by
  have:¬(k:Int)=i:=o_
  have:¬(i:Int)=k:=o_
  simp[gR,ln,ur, *]
 have ag:gw prog 3 [] (.int .i64 i)=some none:=rfl;have P:∀k:Int,gw prog 3 [(.int .i64 i,ct s)] (.int .i64 k)=some ((q9 [((i:Int),s)] k).map ct):=fun k=>LZ 3 k [((i:Int),s)];have ak:gR [] (.int .i64 i) (ct s)=[(.int .i64 i,ct s)]:=rfl;refine gA_ nf func100 mix ?_;simp[f100,-ba];rw[ba];simp[-ba];rw[ba];simp[-ba];rw[ba];simp[ag,ak,-ba];refine join (fun st=>aV st.env 8=.map 2/\aV st.env 3=.ptr 0 []/\st.heap=[.box false (.p (cB t)),.box false (.p (ct s)),.map false (ur (mj t i s))]) ?_ ?_
 ·by_cases c1:dX s.q 1=0
  ·have o:mj t i s=[((i:Int),s),((t.nx i:Nat),.plain (.int 0) s.d)]:=by rw[mj,if_pos c1]
   simp(maxDischargeDepth:=99) [aa,c1,hn,N,w1,e1,P,M _ _ Q,o,e1_ B,e2_ C,e2_ D,e1_ r,e1_ W,e2_ X]
  by_cases c0:dX s.q 0=0
  ·have o:mj t i s=[((i:Int),s),((t.pv i:Nat),.plain (.int 1) s.d)]:=by rw[mj,if_neg c1,if_pos c0]
   simp(maxDischargeDepth:=99) [aa,c1,c0,hn,N,U,V,e2,P,M _ _ S,o,e1_ B,e2_ C,e2_ D,e1_ r,c1_ E,e1_ Y,e2_ Z]
  ·have o:mj t i s=[((i:Int),s)]:=by rw[mj,if_neg c1,if_neg c0]
   have aj:ur [((i:Int),s)]=[(.int .i64 i,ct s)]:=rfl;simp(maxDischargeDepth:=99) [aa,c1,c0,o,aj,e1_ B,e2_ C,e2_ D,e1_ r,c1_ E]
 ·rintro⟨aq,ar⟩ ⟨y8,y3,R⟩;dsimp only at y8 y3 R;subst R;simp[y8,y3,aa];refine lp (α:=Nat) (fun m=>⟨[(56,.p (.int .i64 m)),(55,.p (.int .i64 t.aK.length)),(54,.p (.seq (t.aK.map fo))),(8,.map 2)],[.box false (.p (cB t)),.box false (.p (ct s)),.map false (ur (mj t i s))]⟩) (fun m=>m<=t.aK.length/\m<=v) (fun m=>t.aK.length-m) 0 s_ ?_ (he:=by simp[y8]);rintro m ⟨m1,m2⟩
  by_cases f:m<t.aK.length
  case neg=>
   have I:¬v<t.aK.length:=o_
   have:m=t.aK.length:=o_
   subst this;simp[I,aa]
  have y:=ah.jo f;have J:=b8 (i:=m) o_;obtain⟨⟨az,am,an⟩,z1,z2⟩:=ai _ (bv y);have c:=c (t.pk m);have F:=F m m2 f;have l:=l m m2 f;have G:=G (t.pk m).cV;generalize L:q9 (mj t i s) (t.pk m).cV=O at*;cases O with
  |none=>
   dsimp only at c;simp[f,y,L,J,aa];exact rd (m+1) ⟨f,l c⟩
  |some v'=>
   have A:=G v' rfl;dsimp only at c;rw[pU]at c
   have step:∀x:Rat,aL 2000 x->al prog 137 [eF ⟨x,false⟩] (eF (NF.neg ⟨x,false⟩))/\al prog 183 [eF (NF.neg ⟨x,false⟩),eF v'.d] (ct (.plain (NF.neg ⟨x,false⟩) v'.d))/\
    al prog 182 [ct v',ct (.plain (NF.neg ⟨x,false⟩) v'.d)] (ct (v'.add (.plain (NF.neg ⟨x,false⟩) v'.d)))/\al prog 90 [ct (v'.add (.plain (NF.neg ⟨x,false⟩) v'.d))] (.int .i64 (dX v'.q x)):=fun x hx=>by
    have T:dK 2000 (.plain (NF.neg ⟨x,false⟩) v'.d):=⟨(sZ (x:=⟨x,false⟩) hx).mono d_,(ke d_ d_:aL 2 (NF.int 0).q).mono d_,A.2.2.mono d_⟩
    have g:=oO (v'.add (.plain (NF.neg ⟨x,false⟩) v'.d)) ((yY A T).mono d_);rw[aP7]at g;exact⟨pN ⟨x,false⟩ (hx.mono d_),s8 _ _,s9 v' _ (A.mono d_) (T.mono d_),g⟩
   have ab:=mE (t.pk m).a z1 am.1;have f2:=mE (t.pk m).b z2 an.1;obtain⟨g1,g2,g3,g4⟩:=step _ ((gN z1).mono d_);obtain⟨ac,ad,ae,af⟩:=step _ ((gN z2).mono d_);generalize dX v'.q (aO (t.pk m).a)=ao,dX v'.q (aO (t.pk m).b)=ap at*;clear step A;generalize v'.add (.plain (NF.neg ⟨aO (t.pk m).a,false⟩) v'.d)=u1,NS.plain (NF.neg ⟨aO (t.pk m).a,false⟩) v'.d=aA,NF.neg ⟨aO (t.pk m).a,false⟩=aB,(⟨aO (t.pk m).a,false⟩:NF)=aC,v'.add (.plain (NF.neg ⟨aO (t.pk m).b,false⟩) v'.d)=w1,NS.plain (NF.neg ⟨aO (t.pk m).b,false⟩) v'.d=U,NF.neg ⟨aO (t.pk m).b,false⟩=V,(⟨aO (t.pk m).b,false⟩:NF)=aD at*;simp[f,y,L,aa];refine e1_ ab ?_;simp[aa];refine e1_ g1 ?_;simp[aa];refine e2_ g2 ?_;simp[aa];refine e2_ g3 ?_;simp[aa];refine e1_ g4 ?_
   by_cases u:0<=ao
   case neg=>
    simp[u,J,aa];exact rd (m+1) ⟨f,l (by simp[c,u])⟩
   simp[u,aa];refine e1_ f2 ?_;simp[aa];refine e1_ ac ?_;simp[aa];refine e2_ ad ?_;simp[aa];refine e2_ ae ?_;simp[aa];refine e1_ af ?_
   by_cases w:ap<=0
   ·have I:=F (by simp[c,u,w]);subst I;simp[w,f,y,aa]
   ·simp[w,J,aa];exact rd (m+1) ⟨f,l (by simp[c,w])⟩
def kN(F ww:Rat)(c:S3):S3:=⟨(c.mul c).a-F*(ww-F),(c.mul c).b,(c.mul c).d⟩
def gG(F:Rat)(a en:S3):S3:=a.add (S3.times (-F) en)
def Ch(F ww:Rat)(a en:S3):S3:=((gG F a en).mul (gG F a en)).add (S3.times (-1) (kN F ww a))
def uH(F ww:Rat)(a en:S3):Bool:=if bW a<=0 then false else if bW (kN F ww a)<=0 then false else if bW (gG F a en)<0 then true else decide (bW (Ch F ww a en)<0)
theorem Wq:aN (-1)=[45,49]:=by
 rw[Iq d_,show -(-1:Rat)=1 by decide,yJ]
theorem uG:aL 2 (-1:Rat):=⟨d_,d_⟩
structure qW(F ww:Rat)(wn en:S3):Prop where
 F:aL 42 F
 ww:aL 245 ww
 wa:aL 915 wn.a
 wb:aL 425 wn.b
 wd:aL 776 wn.d
 en:yA en
theorem qW.sq{F ww:Rat}{c en:S3}(h:qW F ww c en):aL 3457 (c.mul c).a/\aL 2681 (c.mul c).b:=
 ⟨(jK (bh h.wa h.wa) (bh (bh h.wb h.wb) h.wd)).mono d_,(jK (bh h.wa h.wb) (bh h.wa h.wb)).mono d_⟩
theorem qW.deep{F ww:Rat}{c en:S3}(h:qW F ww c en):aL 3788 (kN F ww c).a/\aL 2681 (kN F ww c).b/\aL 776 (kN F ww c).d:=
 ⟨(gl h.sq.1 (bh h.F (gl h.ww h.F))).mono d_,h.sq.2,h.wd⟩
theorem qW.left{F ww:Rat}{c en:S3}(h:qW F ww c en):aL 2258 (gG F c en).a/\aL 1768 (gG F c en).b/\aL 776 (gG F c en).d:=
 ⟨(jK h.wa (bh (j0 h.F) h.en.1)).mono d_,(jK h.wb (bh (j0 h.F) h.en.2.1)).mono d_,h.wd⟩
theorem qW.lsq{F ww:Rat}{d en:S3}(h:qW F ww d en):aL 8829 ((gG F d en).mul (gG F d en)).a/\aL 8053 ((gG F d en).mul (gG F d en)).b:=by
 obtain⟨a,b,c⟩:=h.left;exact⟨(jK (bh a a) (bh (bh b b) c)).mono d_,(jK (bh a b) (bh a b)).mono d_⟩
theorem Yd(t:ah)(w:V2)(P:P4)(en:S3)(r0:0<=t.aC)(r1:t.aC<=1000000)(i:aS 61 w)(g:vX 776 P)(h:qW (bH t.aC) (w.dot w) (P4.dot w P) en):
 al prog 113 [cA t,eV w,mc P,eS en] (.bool (uH (bH t.aC) (w.dot w) (P4.dot w P) en)):=by
 obtain⟨s1,s2⟩:=h.sq;obtain⟨d1,d2,d3⟩:=h.deep;obtain⟨e,f,c⟩:=h.left;obtain⟨q1,l⟩:=h.lsq;have k0:=D2 t.aC r0 r1;have k1:=JH w P (i.mono d_) ⟨g.1.mono d_,g.2.mono d_⟩;have k2:=El (P4.dot w P) ⟨h.wa.mono d_,h.wb.mono d_,h.wd.mono d_⟩;have k3:=Ix (P4.dot w P) (P4.dot w P) ⟨h.wa.mono d_,h.wb.mono d_,h.wd.mono d_⟩ ⟨h.wa.mono d_,h.wb.mono d_,h.wd.mono d_⟩;have k4:=pC w (i.mono d_);have k5:=mB (w.dot w) (bH t.aC) (h.ww.mono d_) (h.F.mono d_);have j:=gl h.ww h.F;have k6:=ff (bH t.aC) (w.dot w-bH t.aC) (h.F.mono d_) (j.mono d_);have k7:=mB ((P4.dot w P).mul (P4.dot w P)).a (bH t.aC*(w.dot w-bH t.aC)) (s1.mono d_) ((bh h.F j).mono d_);have k8:=El (kN (bH t.aC) (w.dot w) (P4.dot w P)) ⟨d1.mono d_,d2.mono d_,d3.mono d_⟩;have k9:=vJ (bH t.aC) (h.F.mono d_);have k:il 1300 en:=⟨h.en.1,h.en.2.1,h.en.2.2⟩
 have jk:=vL (-bH t.aC) en ((j0 h.F).mono d_) (k.mono d_);have nw:=Em (P4.dot w P) (S3.times (-bH t.aC) en) ⟨h.wa.mono d_,h.wb.mono d_,h.wd.mono d_⟩ ((Bf (j0 h.F) k).mono d_);rw[show(P4.dot w P).add (S3.times (-bH t.aC) en)=gG (bH t.aC) (P4.dot w P) en from rfl]at nw;have nZ:=El (gG (bH t.aC) (P4.dot w P) en) ⟨e.mono d_,f.mono d_,c.mono d_⟩;have vT:=Ix (gG (bH t.aC) (P4.dot w P) en) (gG (bH t.aC) (P4.dot w P) en) ⟨e.mono d_,f.mono d_,c.mono d_⟩ ⟨e.mono d_,f.mono d_,c.mono d_⟩;have sP:=vL (-1) (kN (bH t.aC) (w.dot w) (P4.dot w P)) (uG.mono d_) ⟨d1.mono d_,d2.mono d_,d3.mono d_⟩;rw[Wq]at sP;have yy:=Em ((gG (bH t.aC) (P4.dot w P) en).mul (gG (bH t.aC) (P4.dot w P) en)) (S3.times (-1) (kN (bH t.aC) (w.dot w) (P4.dot w P))) ⟨q1.mono d_,l.mono d_,c.mono d_⟩ ⟨(bh uG d1).mono d_,(bh uG d2).mono d_,d3.mono d_⟩;have z1:=jK q1 (bh uG d1);have z2:=jK l (bh uG d2);have I7:=B7 (((gG (bH t.aC) (P4.dot w P) en).mul (gG (bH t.aC) (P4.dot w P) en)).add (S3.times (-1) (kN (bH t.aC) (w.dot w) (P4.dot w P)))) (z1.mono d_) (z2.mono d_) (c.mono d_) ((bh (bh z2 z2) c).mono d_);have m:eS (kN (bH t.aC) (w.dot w) (P4.dot w P))=.st 65 [.str (aN (((P4.dot w P).mul (P4.dot w P)).a-bH t.aC*(w.dot w-bH t.aC))),.str (aN ((P4.dot w P).mul (P4.dot w P)).b),.str (aN ((P4.dot w P).mul (P4.dot w P)).d)]:=rfl;have n:eS ((P4.dot w P).mul (P4.dot w P))=.st 65 [.str (aN ((P4.dot w P).mul (P4.dot w P)).a),.str (aN ((P4.dot w P).mul (P4.dot w P)).b),.str (aN ((P4.dot w P).mul (P4.dot w P)).d)]:=rfl;rw[uH,Ch];clear s1 s2 d1 d2 d3 e f c q1 l j k z1 z2 h g i;generalize bW (((gG (bH t.aC) (P4.dot w P) en).mul (gG (bH t.aC) (P4.dot w P) en)).add (S3.times (-1) (kN (bH t.aC) (w.dot w) (P4.dot w P))))=g4 at*;generalize ((gG (bH t.aC) (P4.dot w P) en).mul (gG (bH t.aC) (P4.dot w P) en)).add (S3.times (-1) (kN (bH t.aC) (w.dot w) (P4.dot w P)))=v1 at*;generalize S3.times (-1) (kN (bH t.aC) (w.dot w) (P4.dot w P))=v2,(gG (bH t.aC) (P4.dot w P) en).mul (gG (bH t.aC) (P4.dot w P) en)=v3,bW (gG (bH t.aC) (P4.dot w P) en)=g3 at*;generalize gG (bH t.aC) (P4.dot w P) en=v4,S3.times (-bH t.aC) en=v5 at*;rw[m]at k8 sP;rw[n]at k3;generalize bW (kN (bH t.aC) (w.dot w) (P4.dot w P))=g2,aN (((P4.dot w P).mul (P4.dot w P)).a-bH t.aC*(w.dot w-bH t.aC))=o,aN ((P4.dot w P).mul (P4.dot w P)).a=p,aN ((P4.dot w P).mul (P4.dot w P)).b=q,aN ((P4.dot w P).mul (P4.dot w P)).d=r,aN (bH t.aC*(w.dot w-bH t.aC))=s,aN (w.dot w-bH t.aC)=u,bW (P4.dot w P)=g1 at*;generalize P4.dot w P=v6,aN (-bH t.aC)=v,aN (bH t.aC)=x at*;clear m n;refine gA_ nf func113 mix ?_
 by_cases c1:g1<=0
 ·rw[if_pos c1];simp(maxDischargeDepth:=99) [f113,c1,aa,c1_ k0,c2_ k1,c1_ k2]
 rw[if_neg c1]
 by_cases c2:g2<=0
 ·rw[if_pos c2];simp+decide (maxDischargeDepth:=99) [f113,c1,c2,aa,c1_ k0,c2_ k1,c1_ k2,c2_ k3,e1_ k4,e2_ k5,e2_ k6,e2_ k7,c1_ k8]
 rw[if_neg c2]
 by_cases c3:g3<0
 ·rw[if_pos c3];simp+decide (maxDischargeDepth:=99) [f113,c1,c2,c3,aa,c1_ k0,c2_ k1,c1_ k2,c2_ k3,e1_ k4,e2_ k5,e2_ k6,e2_ k7,c1_ k8,e1_ k9,e2_ jk,e2_ nw,c1_ nZ]
 rw[if_neg c3];simp+decide (maxDischargeDepth:=99) [f113,c1,c2,c3,aa,c1_ k0,c2_ k1,c1_ k2,c2_ k3,e1_ k4,e2_ k5,e2_ k6,e2_ k7,c1_ k8,e1_ k9,e2_ jk,e2_ nw,c1_ nZ,c2_ vT,e2_ sP,e2_ yy,e1_ I7]
def mT(F ww:NF)(dm:NS):NS:=(dm.mul dm).add (.plain (F.mul (ww.sub F)).neg dm.d)
def jO(F:NF)(dm en:NS):NS:=dm.add (en.times F.neg)
theorem aLz(F ww:NF)(dm:NS):(mT F ww dm).q=kN F.q ww.q dm.q:=by
 have h:(ww.sub F).q=ww.q-F.q:=NF.dJ _ _;show S3.mk (dm.a.q*dm.a.q+dm.b.q*dm.b.q*dm.d.q+-(F.q*(ww.sub F).q)) (dm.a.q*dm.b.q+dm.a.q*dm.b.q+((0:Int):Rat)) dm.d.q=S3.mk (dm.a.q*dm.a.q+dm.b.q*dm.b.q*dm.d.q-F.q*(ww.q-F.q)) (dm.a.q*dm.b.q+dm.a.q*dm.b.q) dm.d.q;rw[h,show((0:Int):Rat)=0 from rfl,ej];congr 1
 grind
theorem aMg(F:NF)(dm en:NS):(jO F dm en).q=gG F.q dm.q en.q:=by
 show S3.mk (dm.a.q+en.a.q* -F.q) (dm.b.q+en.b.q* -F.q) dm.d.q=S3.mk (dm.a.q+-F.q*en.a.q) (dm.b.q+-F.q*en.b.q) dm.d.q;rw[fi en.a.q,fi en.b.q]
theorem aOq(g r:NS):((g.mul g).add r.neg).q=(g.q.mul g.q).add (S3.times (-1) r.q):=by
 show S3.mk (_+-r.a.q) (_+-r.b.q) _=S3.mk (_+-1*r.a.q) (_+-1*r.b.q) _;rw[show -1*r.a.q= -r.a.q by grind,show -1*r.b.q= -r.b.q by grind];rfl
theorem aQm{b:ah}(d:vY b){k i:Nat}(hk:k<b.aj.length)(hi:i<b.aj.length):(b.sp k).name=(b.sp i).name↔k=i:=by
 constructor
 ·intro e;have a:∀{k i:Nat},k<i->i<b.aj.length->(b.sp k).name=(b.sp i).name->False:=fun{k i} g hi e=>by
   have:=d.ne i hi;rw[eJ,b1]at this;have c:=this (b.sp k) (bv (i:=k) (by rw[bI,if_pos g];exact ah.dY o_));simp[e]at c
  rcases dl k i with g|g|g
  ·exact(a g hi e).elim
  ·exact g
  ·exact(a g hk e.symm).elim
 ·intro e;rw[e]
def sS(F:Rat)(b:ah)(i j:Nat)(A B:V2)(u:Rat)(en:S3)(m:Nat):Bool:=decide (m≠i)&&(decide (m≠j)&&uH F ((bF b j m).dot (bF b j m)) ⟨A.dot (bF b j m),B.dot (bF b j m),u⟩ en)
theorem zt{k:Nat}{s:NS}{q:S3}(h:s.q=q)(c:aL k q.a)(e:aL k q.b)(f:aL k q.d):dK k s:=by
 subst h;exact⟨c,e,f⟩
theorem Y1(F:NF)(n:NB)(en:NS)(w:NV)(hn:okB 776 n)(ow:aS 61 w.q){ww:Rat}{b:S3}(k:w.q.dot w.q=ww)(hq:(n.dot w).q=b)(h:qW F.q ww b en.q):
 al prog 185 [kj n,bQ w] (ct (n.dot w))/\al prog 184 [ct (n.dot w),ct (n.dot w)] (ct ((n.dot w).mul (n.dot w)))/\
  al prog 68 [bQ w] (eF (w.dot w))/\al prog 140 [eF (w.dot w),eF F] (eF ((w.dot w).sub F))/\al prog 143 [eF F,eF ((w.dot w).sub F)] (eF (F.mul ((w.dot w).sub F)))/\
  al prog 137 [eF (F.mul ((w.dot w).sub F))] (eF (F.mul ((w.dot w).sub F)).neg)/\al prog 183 [eF (F.mul ((w.dot w).sub F)).neg,eF (n.dot w).d] (ct (.plain (F.mul ((w.dot w).sub F)).neg (n.dot w).d))/\
  al prog 182 [ct ((n.dot w).mul (n.dot w)),ct (.plain (F.mul ((w.dot w).sub F)).neg (n.dot w).d)] (ct (mT F (w.dot w) (n.dot w)))/\
  al prog 90 [ct (n.dot w)] (.int .i64 (bW b))/\al prog 90 [ct (mT F (w.dot w) (n.dot w))] (.int .i64 (bW (kN F.q ww b)))/\
  al prog 182 [ct (n.dot w),ct (en.times F.neg)] (ct (jO F (n.dot w) en))/\al prog 90 [ct (jO F (n.dot w) en)] (.int .i64 (bW (gG F.q b en.q)))/\
  al prog 184 [ct (jO F (n.dot w) en),ct (jO F (n.dot w) en)] (ct ((jO F (n.dot w) en).mul (jO F (n.dot w) en)))/\al prog 157 [ct (mT F (w.dot w) (n.dot w))] (ct (mT F (w.dot w) (n.dot w)).neg)/\
  al prog 182 [ct ((jO F (n.dot w) en).mul (jO F (n.dot w) en)),ct (mT F (w.dot w) (n.dot w)).neg] (ct (((jO F (n.dot w) en).mul (jO F (n.dot w) en)).add (mT F (w.dot w) (n.dot w)).neg))/\
  al prog 90 [ct (((jO F (n.dot w) en).mul (jO F (n.dot w) en)).add (mT F (w.dot w) (n.dot w)).neg)] (.int .i64 (bW (Ch F.q ww b en.q))):=by
 obtain⟨d1,d2,d3⟩:=h.deep;obtain⟨s,t,u⟩:=h.left;have r:=Nt n w (hn.mono d_) (ow.mono d_);have of:dK 915 (n.dot w):=zt hq h.wa (h.wb.mono d_) (h.wd.mono d_);have p:aL 245 (w.dot w).q:=by rw[NV.fU,k];exact h.ww
 have o:aL 288 ((w.dot w).sub F).q:=BQ p h.F;have m:aL 330 (F.mul ((w.dot w).sub F)).q:=eL h.F o;have x:dK 1000 (.plain (F.mul ((w.dot w).sub F)).neg (n.dot w).d):=⟨(sZ m).mono d_,(ke d_ d_:aL 2 (NF.int 0).q).mono d_,of.2.2.mono d_⟩
 have f:=aLz F (w.dot w) (n.dot w);rw[NV.fU,k,hq]at f;have e:=aMg F (n.dot w) en;rw[hq]at e;have j:=aOq (jO F (n.dot w) en) (mT F (w.dot w) (n.dot w));rw[e,f]at j;have g:dK 3788 (mT F (w.dot w) (n.dot w)):=zt f d1 (d2.mono d_) (d3.mono d_);have c:dK 2258 (jO F (n.dot w) en):=zt e s (t.mono d_) (u.mono d_);have l:=FB c c;have v:dK 1342 (en.times F.neg):=wz (a:=1300) ⟨h.en.1,h.en.2.1,h.en.2.2⟩ (sZ h.F);have g1:=oO (n.dot w) (of.mono d_);have g2:=oO (mT F (w.dot w) (n.dot w)) (g.mono d_);have g3:=oO (jO F (n.dot w) en) (c.mono d_);have i:=oO (((jO F (n.dot w) en).mul (jO F (n.dot w) en)).add (mT F (w.dot w) (n.dot w)).neg) ((yY l (BP g)).mono d_);rw[hq]at g1;rw[f]at g2;rw[e]at g3;rw[j]at i;exact⟨r,Cc _ _ (of.mono d_) (of.mono d_),sf w (ow.mono d_),nW _ _ (p.mono d_) (h.F.mono d_),fF _ _ (h.F.mono d_) (o.mono d_),pN _ (m.mono d_),s8 _ _,s9 _ _ ((FB of of).mono d_) (x.mono d_),g1,g2,
  s9 _ _ (of.mono d_) (v.mono d_),g3,Cc _ _ (c.mono d_) (c.mono d_),Fp _ (g.mono d_),s9 _ _ (l.mono d_) ((BP g).mono d_),i⟩
theorem XZ(t b:ah)(ar:List Nat)(i j:Nat)(n:NB)(x:XD)(z:n8 t b ar i)(W:j<b.aj.length)(T:aS 396 n.a.q)(U:aS 151 n.b.q)(V:aL 776 n.d.q)(r0:0<=t.aC)(r1:t.aC<=1000000)(hx:me x)(af:x.s.norm.q=0->x.s.a.q≠0)(I:yA (x.s.under x.g).q):
 al prog 103 [jV t b,.str (b.sp j).name,.str ar,kj n,ig x] (.bool (decide (dO (sS (bH t.aC) b i j n.a.q n.b.q n.d.q (x.s.under x.g).q) b.aj.length<b.aj.length))):=by
 have H:=z.L;have an:=H.sl;have c:=wF H W;obtain⟨_,Y⟩:=z.at W;have S:=my r0 r1;have ae:dK 1300 (x.s.under x.g):=⟨I.1,I.2.1,I.2.2⟩
 have k1:=Cb x hx af;have k2:=pN (.width t.aC) (by rw[yW];exact S.mono d_);have k3:=BU (x.s.under x.g) (NF.width t.aC).neg (ae.mono d_) ((sZ (x:=.width t.aC) S).mono d_);have o:∀m,sS (bH t.aC) b i j n.a.q n.b.q n.d.q (x.s.under x.g).q m=(decide (m≠i)&&(decide (m≠j)&&uH (bH t.aC) ((bF b j m).dot (bF b j m)) ⟨n.a.q.dot (bF b j m),n.b.q.dot (bF b j m),n.d.q⟩ (x.s.under x.g).q)):=fun _=>rfl;simp only[uH]at o;have u:=fun m=>@yV (sS (bH t.aC) b i j n.a.q n.b.q n.d.q (x.s.under x.g).q) b.aj.length m;have Q:=fun m=>@zd (sS (bH t.aC) b i j n.a.q n.b.q n.d.q (x.s.under x.g).q) b.aj.length m;have am:=(oY (sS (bH t.aC) b i j n.a.q n.b.q n.d.q (x.s.under x.g).q) b.aj.length).1;generalize sS (bH t.aC) b i j n.a.q n.b.q n.d.q (x.s.under x.g).q=f,l:b.aj.length=N at*;generalize ao:dO f N=v,ac:(x.s.under x.g).times (NF.width t.aC).neg=ai at*;refine gA_ nf func103 mix ?_;simp[f103,c,l,aa];refine e1_ k1 ?_;simp[aa];refine e1_ k2 ?_;simp[aa];refine e2_ k3 ?_;simp[l,aa];refine⟨r_,?_⟩;refine lp (α:=Nat) (fun m=>⟨[(33,.p (.int .i64 m)),(32,.p (.int .i64 N)),(31,.p (.seq (b.aj.map bP))),(12,.ptr 4 []),(11,.ptr 3 []),(8,.ptr 1 []),(5,.ptr 0 []),(2,.p (.str ar)),(1,.p (.str (b.sp j).name))],
  [.box false (.p (jV t b)),.box false (.p (kj n)),.box false (.p (ig x)),.box false (.p (bQ (.from (b.sp j).pt))),.box false (.p (ct ai))]⟩) (fun m=>m<=N/\m<=v) (fun m=>N-m) 0 s_ ?_
 rintro m ⟨m1,m2⟩
 by_cases k:m<N
 case neg=>
  have ag:¬v<N:=o_
  have:m=N:=o_
  subst this;simp[ag,aa]
 have B:m<b.aj.length:=o_
 have r:=ah.dY B;have K:=b8 (i:=m) o_;have ad:=aQm H B (l▸W:j<b.aj.length);have X:=z.name B;have h:=wF H B;have o:=o m;have u:=u m m2 k;have Q:=Q m m2 k;have C:aS 61 (bF b j m):=eB (z.at B).2 Y;have D:=pQ (.from (b.sp m).pt) (.from (b.sp j).pt) (by rw[fe];exact(z.at B).2.mono d_) (by rw[fe];exact Y.mono d_);have R:((NV.from (b.sp m).pt).sub (.from (b.sp j).pt)).q=bF b j m:=by rw[NV.dJ];rfl
 obtain⟨a2,a3,a4,a5,E,F,G,a9,g1,g2,O,g3,Z,a12,ab,g4⟩:=Y1 (.width t.aC) n (x.s.under x.g) ((NV.from (b.sp m).pt).sub (.from (b.sp j).pt)) ⟨T.mono d_,U.mono d_,V⟩ (by rw[R];exact C) (by rw[R]) (show _=(⟨n.a.q.dot (bF b j m),n.b.q.dot (bF b j m),n.d.q⟩:S3)by rw[<-R];rfl)
  ⟨S,cR C C,cR T C,cR U C,V,I⟩
 rw[ac]at O;rw[yW]at g2 g3 g4;clear R C ac I ae S T U V Y z H;generalize (NV.from (b.sp m).pt).sub (.from (b.sp j).pt)=w,(⟨n.a.q.dot (bF b j m),n.b.q.dot (bF b j m),n.d.q⟩:S3)=wn at*;generalize jO (.width t.aC) (n.dot w) (x.s.under x.g)=P,mT (.width t.aC) (w.dot w) (n.dot w)=root,bW (Ch (bH t.aC) ((bF b j m).dot (bF b j m)) wn (x.s.under x.g).q)=ak,bW (gG (bH t.aC) wn (x.s.under x.g).q)=aj,bW (kN (bH t.aC) ((bF b j m).dot (bF b j m)) wn)=s2,bW wn=s1 at*;generalize (P.mul P).add root.neg=v1 at*;generalize P.mul P=v2,root.neg=v3,NS.plain ((NF.width t.aC).mul ((w.dot w).sub (.width t.aC))).neg (n.dot w).d=v4 at*;generalize ((NF.width t.aC).mul ((w.dot w).sub (.width t.aC))).neg=v5 at*;generalize (NF.width t.aC).mul ((w.dot w).sub (.width t.aC))=v6 at*;generalize (w.dot w).sub (.width t.aC)=ap at*;generalize w.dot w=aq,(n.dot w).mul (n.dot w)=v9 at*;generalize n.dot w=dm at*
 by_cases J:m=j
 ·have hf:=u (by rw[o];simp[J]);simp[k,l,r,ad.2 J,K,aa];exact rd (m+1) ⟨k,hf⟩
 have y:¬(b.sp m).name=(b.sp j).name:=fun e=>J (ad.1 e)
 by_cases A:m=i
 ·have hf:=u (by rw[o];simp[A]);have hc:¬ar=(b.sp j).name:=fun e=>y ((X.2 A).trans e);simp[k,l,r,y,hc,X.2 A,K,aa];exact rd (m+1) ⟨k,hf⟩
 have M:¬(b.sp m).name=ar:=fun e=>A (X.1 e)
 by_cases c1:s1<=0
 ·have hf:=u (by rw[o];simp[c1]);simp[k,l,r,y,M,h,c,c1,aa];refine c2_ D ?_;simp[h,c,c1,aa];refine c2_ a2 ?_;simp[h,c,c1,aa];refine e2_ a3 ?_;simp[h,c,c1,aa];refine e1_ a4 ?_;simp[h,c,c1,aa];refine e2_ a5 ?_;simp[h,c,c1,aa];refine e2_ E ?_;simp[h,c,c1,aa];refine e1_ F ?_;simp[h,c,c1,aa];refine e2_ G ?_;simp[h,c,c1,aa];refine e2_ a9 ?_;simp[h,c,c1,aa];refine⟨r_,?_⟩;refine c1_ g1 ?_;simp[h,c,c1,K,aa];exact rd (m+1) ⟨k,hf⟩
 by_cases c2:s2<=0
 ·have hf:=u (by rw[o];simp[c1,c2]);simp[k,l,r,y,M,h,c,c1,c2,aa];refine c2_ D ?_;simp[h,c,c1,c2,aa];refine c2_ a2 ?_;simp[h,c,c1,c2,aa];refine e2_ a3 ?_;simp[h,c,c1,c2,aa];refine e1_ a4 ?_;simp[h,c,c1,c2,aa];refine e2_ a5 ?_;simp[h,c,c1,c2,aa];refine e2_ E ?_;simp[h,c,c1,c2,aa];refine e1_ F ?_;simp[h,c,c1,c2,aa];refine e2_ G ?_;simp[h,c,c1,c2,aa];refine e2_ a9 ?_;simp[h,c,c1,c2,aa];refine⟨r_,?_⟩;refine c1_ g1 ?_;simp[h,c,c1,c2,aa];refine c1_ g2 ?_;simp[h,c,c1,c2,K,aa];exact rd (m+1) ⟨k,hf⟩
 by_cases c3:aj<0
 ·have hf:=Q (by rw[o];simp[c1,c2,c3,A,J]);simp+decide (maxDischargeDepth:=99) [k,l,r,y,M,h,c,c1,c2,c3,aa,hf,c2_ D,c2_ a2,e2_ a3,e1_ a4,e2_ a5,e2_ E,e1_ F,e2_ G,e2_ a9,c1_ g1,c1_ g2,c2_ O,e1_ g3]
 by_cases c4:ak<0
 ·have hf:=Q (by rw[o];simp[c1,c2,c3,c4,A,J]);simp+decide (maxDischargeDepth:=99) [k,l,r,y,M,h,c,c1,c2,c3,c4,aa,hf,c2_ D,c2_ a2,e2_ a3,e1_ a4,e2_ a5,e2_ E,e1_ F,e2_ G,e2_ a9,c1_ g1,c1_ g2,c2_ O,e1_ g3,e2_ Z,e1_ a12,e2_ ab,e1_ g4]
 have hf:=u (by rw[o];simp[c1,c2,c3,c4]);simp[k,l,r,y,M,h,c,c1,c2,c3,c4,aa];refine c2_ D ?_;simp[h,c,c1,c2,c3,c4,aa];refine c2_ a2 ?_;simp[h,c,c1,c2,c3,c4,aa];refine e2_ a3 ?_;simp[h,c,c1,c2,c3,c4,aa];refine e1_ a4 ?_;simp[h,c,c1,c2,c3,c4,aa];refine e2_ a5 ?_;simp[h,c,c1,c2,c3,c4,aa];refine e2_ E ?_;simp[h,c,c1,c2,c3,c4,aa];refine e1_ F ?_;simp[h,c,c1,c2,c3,c4,aa];refine e2_ G ?_;simp[h,c,c1,c2,c3,c4,aa];refine e2_ a9 ?_;simp[h,c,c1,c2,c3,c4,aa];refine⟨r_,?_⟩;refine c1_ g1 ?_;simp[h,c,c1,c2,c3,c4,aa];refine c1_ g2 ?_;simp[h,c,c1,c2,c3,c4,aa];refine c2_ O ?_;simp[h,c,c1,c2,c3,c4,aa];refine e1_ g3 ?_;simp[h,c,c1,c2,c3,c4,aa];refine e2_ Z ?_;simp[h,c,c1,c2,c3,c4,aa];refine e1_ a12 ?_;simp[h,c,c1,c2,c3,c4,aa];refine e2_ ab ?_;simp[h,c,c1,c2,c3,c4,aa];refine e1_ g4 ?_;simp[h,c,c1,c2,c3,c4,K,aa];exact rd (m+1) ⟨k,hf⟩
theorem FN(s:S3)(x:Rat)(hs:il 1800 s)(hx:aL 30 x):al prog 109 [eS s,eS ⟨x,0,0⟩] (.int .i64 (dU s ⟨x,0,0⟩)):=
 Fw s ⟨x,0,0⟩ hs ⟨hx.mono d_,iD d_,iD d_⟩ ((gl hs.1 hx).mono d_)
theorem aKV(s:S3)(x:Rat)(hs:il 1800 s)(hx:aL 30 x):al prog 109 [eS ⟨x,0,0⟩,eS s] (.int .i64 (dU ⟨x,0,0⟩ s)):=
 Fw ⟨x,0,0⟩ s ⟨hx.mono d_,iD d_,iD d_⟩ hs ((gl hx hs.1).mono d_)
theorem YT(t:ah)(i:Nat)(s:S3)(C:fu t)(M:gd t=0)(hi:i<t.cs.length)(hs:il 1800 s)(N:∀p∈t.aK,aL 30 (aO p.a)/\aL 30 (aO p.b)):
 al prog 115 [cA t,.int .i64 i,eS s] (.int .i64 (jA (dO (fun j=>mr t (t.pk j) i s) t.aK.length) t.aK.length)):=by
 have G:=C.cl;have Y:=C.pl;have O:=FG C M;have w1:be.wrap ((i:Int)+1)=(i:Int)+1:=aU _ o_ o_;have r:=zf 0;have x:=zf 1;have y0:=FN s 0 hs (iD d_);have y1:=FN s 1 hs ((show aL 2 (1:Rat)from⟨d_,d_⟩).mono d_);rw[pI]at r;rw[yJ]at x;have o:=fun m=>@zd (fun j=>mr t (t.pk j) i s) t.aK.length m;have q:=fun m=>@yV (fun j=>mr t (t.pk j) i s) t.aK.length m;have X:=(oY (fun j=>mr t (t.pk j) i s) t.aK.length).1;generalize dO (fun j=>mr t (t.pk j) i s) t.aK.length=v at*;refine gA_ nf func115 mix ?_;simp[f115,aa];refine lp (α:=Nat) (fun m=>⟨[(7,.p (.int .i64 m)),(5,.ptr 1 []),(3,.ptr 0 []),(1,.p (.int .i64 i))],[.box false (.p (cA t)),.box false (.p (eS s))]⟩) (fun m=>m<=t.aK.length/\m<=v) (fun m=>t.aK.length-m) 0 s_ ?_;rintro m ⟨m1,m2⟩
 by_cases u:m<t.aK.length
 case neg=>
  have P:jA v t.aK.length= -1:=by rw[jA,if_neg o_]
  have:m=t.aK.length:=o_
  subst this;simp[P,aa]
 have B:=ah.jo u;have y:=b8 (i:=m) o_;obtain⟨_,z1,z2⟩:=O _ (bv B);obtain⟨R,S⟩:=N _ (bv B);have A:=zf (aO (t.pk m).a);have E:=zf (aO (t.pk m).b);rw[(ia z1).1]at A;rw[(ia z2).1]at E;have F:=aKV s _ hs R;have L:=FN s _ hs S;have q0:=B8 t (t.pk m) i G o_ o_;have q1:=B8 t (t.pk m) (i+1) G o_ o_;rw[show((i+1:Nat):Int)=(i:Int)+1 from rfl]at q1;have o:mr t (t.pk m) i s=true->jA v t.aK.length=(m:Int):=fun h=>by rw[o m m2 u h,jA,if_pos u]
 have q:=fun h=>(⟨u,q m m2 u h⟩:m+1<=t.aK.length/\m+1<=v)
 rw[mr]at o q;generalize jA v t.aK.length=T,kh t (t.pk m) i=k0,kh t (t.pk m) (i+1)=k1,dU ⟨aO (t.pk m).a,0,0⟩ s=J,dU s ⟨aO (t.pk m).b,0,0⟩=K,dU s ⟨0,0,0⟩=Q,dU s ⟨1,0,0⟩=I at*;have V:eS s=.st 65 [.str (aN s.a),.str (aN s.b),.str (aN s.d)]:=rfl;rw[ba,ba];simp[u,aa,-ba];rw[ba];simp[-ba];rw[ba];simp[u,B,aa,-ba];refine join (fun st=>(decide ((t.pk m).cV=i)&&(decide (J<=0)&&decide (K<=0)))=false/\aV st.env 1=.p (.int .i64 i)/\aV st.env 3=.ptr 0 []/\aV st.env 5=.ptr 1 []/\aV st.env 7=.p (.int .i64 m)/\aV st.env 8=.ptr 2 []/\st.heap=[.box false (.p (cA t)),.box false (.p (eS s)),.box false (.p (fV (t.pk m)))]) ?_ ?_
 ·by_cases r1:(t.pk m).cV=i
  case neg=>
   simp[r1,aa]
  by_cases z:J<=0
  case neg=>
   simp(maxDischargeDepth:=99) [r1,aa,z,e1_ A,e2_ F]
  by_cases D:K<=0
  case neg=>
   simp(maxDischargeDepth:=99) [r1,aa,z,D,e1_ A,e2_ F,e1_ E,e2_ L]
  have w:=o (by simp[r1,z,D]);simp(maxDischargeDepth:=99) [r1,aa,z,D,w,e1_ A,e2_ F,e1_ E,e2_ L]
 rintro⟨U,W⟩ ⟨hx,c,e,f,g,k,H⟩;dsimp only at c e f g k H;subst H;rw[hx,Bool.false_or]at o q;clear hx
 by_cases s0:Q=0
 case neg=>
  by_cases s1:I=0
  case neg=>
   simp[s0,s1,c,e,f,g,k,w1,aa];refine e1_ r ?_;simp[s0,s1,c,e,f,g,k,w1,aa];refine e2_ y0 ?_;simp[s0,s1,c,e,f,g,k,w1,aa];refine e1_ x ?_;simp[s0,s1,c,e,f,g,k,w1,aa];refine e2_ y1 ?_;simp[s0,s1,c,e,f,g,k,w1,y,aa];exact rd (m+1) (q (by simp[s0,s1])) (he:=by simp[c,e,f])
  rcases l:k1 with _|_
  ·rw[l]at q1;simp[s0,s1,l,c,e,f,g,k,w1,aa];refine e1_ r ?_;simp[s0,s1,l,c,e,f,g,k,w1,aa];refine e2_ y0 ?_;simp[s0,s1,l,c,e,f,g,k,w1,aa];refine e1_ x ?_;simp[s0,s1,l,c,e,f,g,k,w1,aa];refine e2_ y1 ?_;simp[s0,s1,l,c,e,f,g,k,w1,aa];refine e3_ q1 ?_;simp[s0,s1,l,c,e,f,g,k,w1,y,aa];exact rd (m+1) (q (by simp[s0,s1,l])) (he:=by simp[c,e,f])
  ·rw[l]at q1;have w:=o (by simp[s0,s1,l]);simp(maxDischargeDepth:=99) [s0,s1,l,c,e,f,g,k,w1,aa,w,e1_ r,e2_ y0,e1_ x,e2_ y1,e3_ q1]
 rcases n:k0 with _|_
 ·rw[n]at q0
  by_cases s1:I=0
  case neg=>
   simp[s0,n,s1,c,e,f,g,k,w1,aa];refine e1_ r ?_;simp[s0,n,s1,c,e,f,g,k,w1,aa];refine e2_ y0 ?_;simp[s0,n,s1,c,e,f,g,k,w1,aa];refine e3_ q0 ?_;simp[s0,n,s1,c,e,f,g,k,w1,aa];refine e1_ x ?_;simp[s0,n,s1,c,e,f,g,k,w1,aa];refine e2_ y1 ?_;simp[s0,n,s1,c,e,f,g,k,w1,y,aa];exact rd (m+1) (q (by simp[s0,n,s1])) (he:=by simp[c,e,f])
  rcases l:k1 with _|_
  ·rw[l]at q1;simp[s0,n,s1,l,c,e,f,g,k,w1,aa];refine e1_ r ?_;simp[s0,n,s1,l,c,e,f,g,k,w1,aa];refine e2_ y0 ?_;simp[s0,n,s1,l,c,e,f,g,k,w1,aa];refine e3_ q0 ?_;simp[s0,n,s1,l,c,e,f,g,k,w1,aa];refine e1_ x ?_;simp[s0,n,s1,l,c,e,f,g,k,w1,aa];refine e2_ y1 ?_;simp[s0,n,s1,l,c,e,f,g,k,w1,aa];refine e3_ q1 ?_;simp[s0,n,s1,l,c,e,f,g,k,w1,y,aa];exact rd (m+1) (q (by simp[s0,n,s1,l])) (he:=by simp[c,e,f])
  ·rw[l]at q1;have w:=o (by simp[s0,n,s1,l]);simp(maxDischargeDepth:=99) [s0,n,s1,l,c,e,f,g,k,w1,aa,w,e1_ r,e2_ y0,e3_ q0,e1_ x,e2_ y1,e3_ q1]
 ·rw[n]at q0;have w:=o (by simp[s0,n]);simp(maxDischargeDepth:=99) [s0,n,c,e,f,g,k,w1,aa,w,e1_ r,e2_ y0,e3_ q0]
def Bl(t b:ah)(i:Nat)(d:bS)(j k:Nat):S3:=eC t (vP (b.sp j).pt) (cC (bF b i j) (vP d)) (cL (vP d)) (bU t.aC (bF b i j) (vP d)) k
def uo(t b:ah)(i:Nat)(d:bS)(j k:Nat):S3:=q8 t (vP (b.sp j).pt) (cC (bF b i j) (vP d)) (cL (vP d)) (bU t.aC (bF b i j) (vP d)) k
def yG(t b:ah)(i:Nat)(d:bS)(j k:Nat):Nat->Bool:=sS (bH t.aC) b i j (cC (bF b i j) (vP d)) (cL (vP d)) (bU t.aC (bF b i j) (vP d)) (Bl t b i d j k)
def zu(t b:ah)(i:Nat)(d:bS)(j k:Nat):Bool:=decide (dO (yG t b i d j k) b.aj.length<b.aj.length)
def qZ(t b:ah)(i:Nat)(d:bS)(j k:Nat):Nat:=dO (fun m=>ks t (t.pk m) k (uo t b i d j k)) t.aK.length
def Bv(t:ah)(m:Nat):List Nat:=if m<t.aK.length then(t.pk m).name else[]
def Jn(t b:ah)(i:Nat)(d:bS)(j k:Nat):List PV:=if zu t b i d j k=true then[.str [],.str [],.int .i64 30]else[.str (b.sp j).name,.str (Bv t (qZ t b i d j k)),.int .i64 0]
theorem aKY(t b:ah)(ar:List Nat)(d:bS)(i j k:Nat)(x:XD)(e:Rat)(u:XD)(l:List XD)(v:fu t)(h:yn t b ar d i x e)(c:some j=gH t b i (vP d) e b.aj.length)
 (hk:k<t.cs.length)(hs:0<bW (ez t (cC (bF b i j) (vP d)) (cL (vP d)) (bU t.aC (bF b i j) (vP d)) k))(o:t.fK (.from (b.sp j).pt) (dE t b i d j) t.cs.length=u::l)(q:iT u l=t.bD (.from (b.sp j).pt) (dE t b i d j) k):
 al prog 50 [jV t b,.str ar,bQ (.from d)] (.aE (Jn t b i d j k)):=by
 have a:=FP h c;have f:=wF h.C.L a.jl;have k1:=Me t b ar i d x e h.C h.dk h.nz h.E;rw[<-c,ny,pW]at k1;have k2:=YP a;have k3:=aKF a o q;have k4:=XZ t b ar i j (dE t b i d j) (t.bD (.from (b.sp j).pt) (dE t b i d j) k) h.C a.jl (by rw[rB];exact zm a.S.ow a.S.od) (by rw[rA];exact zl a.S.od) (by rw[rz];exact wM a.S.r0 a.S.r1 a.S.ow a.S.od) a.S.r0 a.S.r1 (a.me hk) (a.norm hs) (by rw[a.dm hk];exact wO a.S hk);rw[a.dm hk,rB,rA,rz]at k4;have k5:=YN a hk hs;have k6:=Lp t k (yE t b i d j k) v h.C.eZ hk (aQg a hk hs);rw[yB,Wg a hk]at k6;have p:ig (t.bD (.from (b.sp j).pt) (dE t b i d j) k)=.st 159 [vQ k (di (t.at k)) (t.cJ k),eF (t.bD (.from (b.sp j).pt) (dE t b i d j) k).g,ct (t.bD (.from (b.sp j).pt) (dE t b i d j) k).s]:=rfl;rw[p]at k3 k4 k5;have r:aP (pT (lU t b i d j))=.agg 147:=Ma _;rw[Jn,zu,Bv,qZ];show al _ _ _ (.aE (if decide (dO (sS (bH t.aC) b i j (cC (bF b i j) (vP d)) (cL (vP d)) (bU t.aC (bF b i j) (vP d)) (eC t (vP (b.sp j).pt) (cC (bF b i j) (vP d)) (cL (vP d)) (bU t.aC (bF b i j) (vP d)) k)) b.aj.length<b.aj.length)=true then _ else _));rw[uo];clear p hs q o a h c;generalize decide (dO (sS (bH t.aC) b i j (cC (bF b i j) (vP d)) (cL (vP d)) (bU t.aC (bF b i j) (vP d)) (eC t (vP (b.sp j).pt) (cC (bF b i j) (vP d)) (cL (vP d)) (bU t.aC (bF b i j) (vP d)) k)) b.aj.length<b.aj.length)=st,(if dO (fun m=>ks t (t.pk m) k (q8 t (vP (b.sp j).pt) (cC (bF b i j) (vP d)) (cL (vP d)) (bU t.aC (bF b i j) (vP d)) k)) t.aK.length<t.aK.length then(t.pk (dO (fun m=>ks t (t.pk m) k (q8 t (vP (b.sp j).pt) (cC (bF b i j) (vP d)) (cL (vP d)) (bU t.aC (bF b i j) (vP d)) k)) t.aK.length)).name else[])=w,yE t b i d j k=s,(t.bD (.from (b.sp j).pt) (dE t b i d j) k).g=y,(t.bD (.from (b.sp j).pt) (dE t b i d j) k).s=xs,dE t b i d j=n,pT (lU t b i d j)=M at*;refine gA_ nf func50 mix ?_;cases st
 ·simp(maxDischargeDepth:=99) [f50,aa,r,f,c3_ k1,c1_ k2,c3_ k3,c5_ k4,e3_ k5,e3_ k6]
 ·simp(maxDischargeDepth:=99) [f50,aa,r,f,c3_ k1,c1_ k2,c3_ k3,c5_ k4]
def VY(t b:ah)(i:Nat)(d:bS)(j k:Nat):Nat:=dO (fun m=>mr t (t.pk m) k (uo t b i d j k)) t.aK.length
theorem aPj{t b:ah}{i j k:Nat}{d:bS}(h:gd t=0)(a:jJ t b i d j)(hk:k<t.cs.length):VY t b i d j k=qZ t b i d j k:=by
 have c:(uo t b i d j k).d=bU t.aC (bF b i j) (vP d):=by
  show(eC t (vP (b.sp j).pt) (cC (bF b i j) (vP d)) (cL (vP d)) (bU t.aC (bF b i j) (vP d)) k).d=_;rw[eC,fQ]
  split<;>rfl
 exact Ya h hk (by rw[c];exact a.u)
def Jo(t b:ah)(i:Nat)(d:bS)(j k:Nat):List PV:=if zu t b i d j k=true then[.int .i64 j,.int .i64 (-1),.int .i64 30]else[.int .i64 j,.int .i64 (jA (qZ t b i d j k) t.aK.length),.int .i64 0]
theorem aCX(t b:ah)(ar:List Nat)(i j k:Nat)(d:bS)(x:XD)(e:Rat)(ag:fu t)(h:yn t b ar d i x e)(O:some j=gH t b i (vP d) e b.aj.length)(ad:∀p∈t.aK,aL 30 (aO p.a)/\aL 30 (aO p.b))
 (hk:k<t.cs.length)(hs:0<bW (ez t (cC (bF b i j) (vP d)) (cL (vP d)) (bU t.aC (bF b i j) (vP d)) k))(G:jN t (vP (b.sp j).pt) (cC (bF b i j) (vP d)) (cL (vP d)) (bU t.aC (bF b i j) (vP d)) t.cs.length=some k):
 al prog 55 [cA t,.seq (b.aj.map bP),.int .i64 i,eV (vP d)] (.aE (Jo t b i d j k)):=by
 have c:=FP h O;have an:=h.C.L.sl;have hi:=h.C.ci.2.1;have l:=c.jl;have r:=ah.dY hi;have n:=ah.dY l;obtain⟨ac,Z⟩:=h.C.at hi;obtain⟨z,F⟩:=h.C.at l;obtain⟨ai,hx⟩:=h.ef;have U:=my c.S.r0 c.S.r1;have k1:=Lr t b ar i (vP d) ai e h.C h.dk h.nz hx h.E.sz;rw[<-O,iJ,oC]at k1;have k2:=lj (vP (b.sp j).pt) (vP (b.sp i).pt) (F.mono d_) (Z.mono d_);rw[show(vP (b.sp j).pt).sub (vP (b.sp i).pt)=bF b i j from rfl,ac,z]at k2;have k3:=Ys t.aC (bF b i j) (vP d) c.rp c.S.r1 c.S.ow c.S.od c.S.hz;have k4:=Nu t t.aC (bF b i j) (vP d) (vP (b.sp j).pt) c.S c.cl c.u;rw[G,iJ,qc,z]at k4;have k5:=Yq t t.aC (bF b i j) (vP d) (vP (b.sp j).pt) c.S c.cl c.u k hk (wK c.three c.cv hk) G;rw[z]at k5;have W:=L9 c.S hk c.u (wK c.three c.cv hk) hs;have k6:=YT t k (uo t b i d j k) ag h.C.eZ hk W ad;rw[show dO (fun m=>mr t (t.pk m) k (uo t b i d j k)) t.aK.length=VY t b i d j k from rfl,aPj h.C.eZ c hk]at k6;have Y:=wO c.S hk;have V:=Fq c.S.r0 c.S.r1 c.S.ow c.S.od;have R:=zm c.S.ow c.S.od;have T:=zl c.S.od;have X:=wM c.S.r0 c.S.r1 c.S.ow c.S.od;have q:=fun m(g:m<b.aj.length)=>lj (vP (b.sp m).pt) (vP (b.sp j).pt) ((h.C.at g).2.mono d_) (F.mono d_);have ab:=fun m(g:m<b.aj.length)=>(h.C.at g).1;have kS:=fun m(g:m<b.aj.length)=>by
  have y:aS 61 (bF b j m):=eB (h.C.at g).2 F;have:=Yd t (bF b j m) (lY t.aC (bF b i j) (vP d)) (Bl t b i d j k) c.S.r0 c.S.r1 y V (by
   rw[Fu];exact⟨U,cR y y,cR R y,cR T y,X,Y⟩)
  rw[Fu]at this;exact this
 have K:∀m,(vP (b.sp m).pt).sub (vP (b.sp j).pt)=bF b j m:=fun _=>rfl;simp only[K]at q;have o:∀m,yG t b i d j k m=(decide (m≠i)&&(decide (m≠j)&&uH (bH t.aC) ((bF b j m).dot (bF b j m)) ⟨(cC (bF b i j) (vP d)).dot (bF b j m),(cL (vP d)).dot (bF b j m),bU t.aC (bF b i j) (vP d)⟩ (Bl t b i d j k))):=fun _=>rfl;have H:=fun m=>@zd (yG t b i d j k) b.aj.length m;have s:=fun m=>@yV (yG t b i d j k) b.aj.length m;have am:=(oY (yG t b i d j k) b.aj.length).1;have af:=fun m(g:m<b.aj.length)=>ah.dY g;rw[Jo,zu];rw[show eC t (vP (b.sp j).pt) (cC (bF b i j) (vP d)) (cL (vP d)) (bU t.aC (bF b i j) (vP d)) k=Bl t b i d j k from rfl]at k4;rw[show q8 t (vP (b.sp j).pt) (cC (bF b i j) (vP d)) (cL (vP d)) (bU t.aC (bF b i j) (vP d)) k=uo t b i d j k from rfl]at k5;clear c U hx G hs W Y V R T X Z F K;generalize yG t b i d j k=f at*;generalize ao:dO f b.aj.length=v,jA (qZ t b i d j k) t.aK.length=pk,uo t b i d j k=S,ak:Bl t b i d j k=en,fS t b i (vP d) j=s0,lY t.aC (bF b i j) (vP d)=P,I9 t.aC (bF b i j) (vP d)=Q at*;refine gA_ nf func55 mix ?_;simp[f55,hi,l,r,n,aa];refine c4_ k1 ?_;simp[hi,l,r,n,aa];refine e2_ k2 ?_;simp[hi,l,r,n,aa];refine e3_ k3 ?_;simp[hi,l,r,n,aa];refine⟨r_,?_⟩;refine e3_ k4 ?_;simp[hi,l,r,n,aa];refine⟨r_,?_⟩;refine lp (α:=Nat) (fun m=>⟨[(17,.p (.int .i64 m)),(16,.ptr 5 []),(13,.ptr 3 []),(11,.p (.int .i64 j)),(4,.ptr 0 []),(2,.p (.int .i64 i)),(1,.p (.seq (b.aj.map bP)))],
  [.box false (.p (cA t)),.box false (.p (eV (vP d))),.box false (.p (eS s0)),.box false (.p (mc P)),.box false (.p (mc Q)),.box false (.p (eS en))]⟩) (fun m=>m<=b.aj.length/\m<=v) (fun m=>b.aj.length-m) 0 s_ ?_
 rintro m ⟨m1,m2⟩
 by_cases g:m<b.aj.length
 case neg=>
  have I:¬v<b.aj.length:=o_
  have:m=b.aj.length:=o_
  subst this;simp+decide [l,n,I,aa,e3_ k5,c3_ k6]
 have A:=af m g;have J:=b8 (i:=m) o_;have q:=q m g;rw[ab m g,z]at q;have kS:=kS m g;have o:=o m;have s:=fun ae=>(⟨g,s m m2 g ae⟩:m+1<=b.aj.length/\m+1<=v)
 have H:=H m m2 g;generalize uH (bH t.aC) ((bF b j m).dot (bF b j m)) ⟨(cC (bF b i j) (vP d)).dot (bF b j m),(cL (vP d)).dot (bF b j m),bU t.aC (bF b i j) (vP d)⟩ en=aj at*
 by_cases M:m=i
 ·subst M;simp[g,A,J,aa];exact rd (m+1) (s (by rw[o];simp))
 have w:¬(m:Int)=i:=o_
 by_cases N:m=j
 ·subst N;simp[g,A,w,J,aa];exact rd (m+1) (s (by rw[o];simp))
 have D:¬(m:Int)=j:=o_
 rcases B:aj with _|_
 ·rw[B]at kS;simp[g,A,l,n,w,D,aa];refine e2_ q ?_;simp[w,D,aa];refine e4_ kS ?_;simp[w,D,J,aa];exact rd (m+1) (s (by rw[o];simp[B]))
 ·rw[B]at kS;have I:=H (by rw[o];simp[B,M,N]);subst I;simp[g,A,l,n,w,D,aa,e2_ q,e4_ kS]
theorem Y3{t b:ah}{ar aB:List Nat}{n:Nat}(hs:rE t b ar aB n=true)(h:gh t b=0):∀p∈t.aK,aL 30 (aO p.a)/\aL 30 (aO p.b):=by
 rw[rE,h]at hs;simp only[a1,a7,decide_eq_true_eq]at hs;obtain⟨_,_,_,_,hs⟩:=hs;have hf:qS t b n 9=true:=by
  rcases hs with hs|hs
  ·exact absurd rfl hs
  ·exact hs
 rw[qS]at hf;simp only[a1,cy]at hf;obtain⟨_,_,_,_,_,hf,_⟩:=hf;intro p h;have:=hf p h;exact⟨tV this.1,tV this.2⟩
theorem MY{t:ah}(h:gd t=0){m w:Nat}(f:m<t.aK.length)(b:w<t.aK.length):(t.pk m).name=(t.pk w).name↔m=w:=by
 have c:∀{m w:Nat},m<w->w<t.aK.length->(t.pk m).name=(t.pk w).name->False:=fun{m w} g b e=>by
  have a:=zk h b;rw[gY]at a
  split at a
  ·omega
  split at a
  ·omega
  ·rename_i _ d;exact d (cx.2 ⟨t.pk m,bv (i:=m) (by rw[bI,if_pos g];exact ah.jo o_),decide_eq_true e⟩)
 constructor
 ·intro e;rcases dl m w with g|g|g
  ·exact(c g b e).elim
  ·exact g
  ·exact(c g f e.symm).elim
 ·intro e;rw[e]
theorem VZ{t:ah}(h:gd t=0){w:Nat}(b:w<t.aK.length):(t.pk w).name≠[]:=by
 intro e;have a:=zk h b;rw[gY,e]at a;rw[if_pos d_]at a;omega
theorem L4{α:Type}(f:α->Bool):∀(l:List α)(n i:Nat),idxFrom f l n=((n+i:Nat):Int)->∃x,l[i]?=some x/\f x=true
 |[],n,i,h=>by rw[idxFrom]at h;omega
 |a::l,n,i,h=>by
  rw[idxFrom]at h;cases b:f a
  ·rw[b]at h;simp only[Bool.false_eq_true,if_false]at h;rcases i with _|i
   ·rcases Fs f l (n+1)with g|⟨k,g,_⟩<;>omega
   ·exact L4 f l (n+1) i (by rw[h];omega)
  ·rw[b]at h;simp only[if_true]at h;have:i=0:=by omega
   subst this;exact⟨a,rfl,b⟩
theorem Lw{t:ah}{name:List Nat}{w:Nat}(h:lx t name=w)(c:w<t.aK.length):(t.pk w).name=name:=by
 rw[lx]at h;obtain⟨x,a,b⟩:=L4 _ t.aK 0 w (by rw[h];omega);rw[ah.jo c]at a;injection a with a
 subst a;simpa using b
def gW(n:Nat):V2:=(lP n).mul (-1)
def kG(t:ah)(p:V2)(n:Nat):Nat:=(t.fW p (gW n) t.cs.length).1.toNat
def lh(t:ah)(p:V2)(n:Nat):V2:=p.add ((gW n).mul (t.fW p (gW n) t.cs.length).2)
def sG(t:ah)(p:V2)(n:Nat):Rat:=t.shr (kG t p n) (lh t p n)
def mG(t:ah)(p:V2)(n:Nat):Nat:=dO (fun m=>lF t (t.pk m) (kG t p n) (aN (sG t p n))) t.aK.length
def kr(t b:ah)(ar aB:List Nat)(j n w:Nat):Bool:=decide (mG t (vP (b.sp j).pt) n=w)&&(ic t.aC (vP (b.sp j).pt) (lh t (vP (b.sp j).pt) n) [ar,aB] b.aj).isEmpty
theorem Yi:∀k:Fin 8,(pM k.val).dot (pM k.val)=1:=by decide+kernel
theorem YZ(n:Nat):(lP n).dot (lP n)=1:=by
 have a:=Yi ⟨n% 8,Nat.mod_lt _ d_⟩;rw[lP];dsimp only at a;generalize pM (n% 8)=v at*;generalize n/8=m
 induction m with
 |zero=>exact a
 |succ m b=>
  rw[fg,<-b];generalize fg m v=u;simp only[V2.Bz,V2.dot]
  grind
theorem aLC(n:Nat):¬((gW n).x=0/\(gW n).y=0):=by
 intro⟨a,c⟩;have b:=YZ n;rw[gW,V2.mul]at a c;dsimp only at a c;have a':(lP n).x=0:=by grind
 have c':(lP n).y=0:=by grind
 rw[V2.dot,a',c']at b;exact absurd b (by decide+kernel)
theorem ze(n:Nat):aS 10 (gW n):=yP wJ uG
structure IP(t:ah)(p:V2)(n k:Nat):Prop where
 kl:k<t.cs.length
 pos:0<t.dT (gW n) k
 ex:t.fW p (gW n) t.cs.length=((k:Int),t.fL p (gW n) k)
 sz:aL 228 (t.fL p (gW n) k)
 at_:aS 300 (lh t p n)
 sh:aL 800 (sG t p n)
theorem go_of{t:ah}(h:gd t=0)(p:bS)(f:aS 30 (vP p))(n:Nat)(dN:NV)(e:dN.q=gW n):
 ∃k d l,IP t (vP p) n k/\t.fK (.from p) (bK dN) t.cs.length=d::l/\iT d l=t.bD (.from p) (bK dN) k:=by
 obtain⟨r,_,hn,hc⟩:=mn h;obtain⟨k,b,g,⟨d,l,m,o⟩,c⟩:=LK t p dN r hc (by rw[e];exact aLC n);rw[e]at g c;have a:=ah.okW hn b;have s:=eB f (gE (ah.eg hn b));have j:aL 228 (t.fL (vP p) (gW n) k):=(iq (lB a s) (lB (ze n) a)).mono d_;have i:aS 269 (lh t (vP p) n):=by
  rw[lh,c];exact(JI f (yP (ze n) j)).mono d_
 refine⟨k,d,l,⟨b,g,c,j,i.mono d_,?_⟩,m,o⟩;have hk:kG t (vP p) n=k:=by rw[kG,c];exact bo k
 rw[sG,hk];exact(iq (cR (eB i (gE (ah.eg hn b))) a) (cR a a)).mono d_
theorem IP.kq{t:ah}{p:V2}{n k:Nat}(h:IP t p n k):kG t p n=k:=by
 have:=h.ex;rw[kG,this];exact bo k
theorem aAT(t b:ah)(ar aB:List Nat)(i j n w:Nat)(h:kA t b ar aB i j)(d:∀s∈b.aj,aS 30 (vP s.pt))(u:fu t)(z:n<32)(E:w<t.aK.length):
 al prog 57 [jt t b ar aB,.int .i64 n,.int .i64 w] (.bool (kr t b ar aB j n w)):=by
 obtain⟨r0,r1⟩:=lG h.eZ;obtain⟨A,_,hn,hc⟩:=mn h.eZ;have v:=h.bj.2.1;have c:=d _ (bv (ah.dY v));obtain⟨k,m0,l,a,_,_⟩:=go_of h.eZ (b.sp j).pt c n ⟨⟨(gW n).x,false⟩,⟨(gW n).y,false⟩⟩ rfl;have k1:=Mh n z;have k2:=JM (lP n) (-1) (wJ.mono d_) (uG.mono d_);rw[Wq,show(lP n).mul (-1)=gW n from rfl]at k2;have k3:=FD t b ar aB i j h;have k4:=Mi t (vP (b.sp j).pt) (gW n) h.tl hn (c.mono d_) ((ze n).mono d_);rw[a.ex]at k4;have k5:=Kl (vP (b.sp j).pt) (gW n) (t.fL (vP (b.sp j).pt) (gW n) k) (c.mono d_) ((ze n).mono d_) (a.sz.mono d_);have f:(vP (b.sp j).pt).add ((gW n).mul (t.fL (vP (b.sp j).pt) (gW n) k))=lh t (vP (b.sp j).pt) n:=by rw[lh,a.ex]
 rw[f]at k5;have k6:=Yp t k (lh t (vP (b.sp j).pt) n) h.tl hn a.kl (a.at_.mono d_) (wK A hc a.kl);have r:t.shr k (lh t (vP (b.sp j).pt) n)=sG t (vP (b.sp j).pt) n:=by rw[sG,a.kq]
 rw[r]at k6;obtain⟨_,g⟩:=aOR a.sh d_;have k7:=XO t k (aN (sG t (vP (b.sp j).pt) n)) h.tl u.pl a.kl (FG u h.eZ) g;have q:dO (fun m=>lF t (t.pk m) k (aN (sG t (vP (b.sp j).pt) n))) t.aK.length=mG t (vP (b.sp j).pt) n:=by rw[mG,a.kq]
 rw[q]at k7;have k8:=Ns t b ar aB;have k9:=Ls t b (vP (b.sp j).pt) (lh t (vP (b.sp j).pt) n) [ar,aB] o_ o_ (by have:=h.L.sl;omega) (fun s hs=>(h.L.sp s hs).2) (fun s hs=>(d s hs).mono d_) s_ (c.mono d_) a.at_;simp only[bw,bV]at k9;have C:mG t (vP (b.sp j).pt) n<=t.aK.length:=(oY _ _).1;rw[kr];have hq:(jA (mG t (vP (b.sp j).pt) n) t.aK.length=(w:Int))↔mG t (vP (b.sp j).pt) n=w:=by
  rw[jA]
  split<;>omega
 clear f r q g a c d;generalize jA (mG t (vP (b.sp j).pt) n) t.aK.length=o,t.fL (vP (b.sp j).pt) (gW n) k=dm,aN (sG t (vP (b.sp j).pt) n)=sh,ic t.aC (vP (b.sp j).pt) (lh t (vP (b.sp j).pt) n) [ar,aB] b.aj=R at*;generalize B:lh t (vP (b.sp j).pt) n=Q,gW n=D,lP n=U at*;generalize vP (b.sp j).pt=p at*;refine gA_ nf func57 mix ?_
 by_cases c1:o=(w:Int)
 case neg=>
  have c2:¬mG t p n=w:=fun e=>c1 (hq.2 e);simp+decide (maxDischargeDepth:=99) [f57,aa,c1,c2,c1_ k1,c2_ k2,e1_ k3,e3_ k4,e3_ k5,e3_ k6,e3_ k7]
 have c2:=hq.1 c1;simp[f57,aa];refine c1_ k1 ?_;simp[aa];refine c2_ k2 ?_;simp[aa];refine e1_ k3 ?_;simp[aa];refine e3_ k4 ?_;simp[aa];refine e1_ k3 ?_;simp[aa];refine e3_ k5 ?_;simp[aa];refine⟨r_,?_⟩;refine e3_ k6 ?_;simp[aa];refine e3_ k7 ?_;simp[c1,c2,aa];refine e1_ k3 ?_;simp[aa];refine e1_ k8 ?_;simp[aa];refine e4_ k9 ?_;rcases R with _|⟨x,R⟩<;>simp[c2,aa]
theorem Wf{x:Rat}:bE x=0↔x=0:=by
 rw[bE];constructor
 ·intro h
  split at h
  ·exact absurd h d_
  ·split at h
   ·assumption
   ·exact absurd h d_
 ·intro h;subst h;decide
theorem XR(t:ah)(p:du)(i:Nat)(s:Rat):mr t p i ⟨s,0,1⟩=lF t p i (aN s):=by
 have b:bE (s-0)=0↔aN s=[48]:=by rw[Wf,Db];constructor<;>intro h<;>grind
 have c:bE (s-1)=0↔aN s=[49]:=by
  rw[Wf];constructor
  ·intro h;rw[show s=1 by grind,yJ]
  ·intro h;have:aO (aN s)=1:=by rw[h,Wy]
   rw[xW]at this;rw[this];grind
 rw[mr,lF,IW,Lx,wG,wG,wG,rF,rF,rF,rF,xW,yX,yX,<-zi];rw[show -(s-aO p.a)=aO p.a-s by grind];simp only[b,c];rw[Bool.or_assoc]
theorem aMn(t:ah)(p:du)(i:Nat)(s d:Rat):ks t p i ⟨s,0,d⟩=ks t p i ⟨s,0,1⟩:=by
 simp only[ks,pU,rF]
theorem Yx{t:ah}(h:gd t=0){i:Nat}(s d:Rat)(hi:i<t.cs.length):dO (fun m=>ks t (t.pk m) i ⟨s,0,d⟩) t.aK.length=dO (fun m=>lF t (t.pk m) i (aN s)) t.aK.length:=
 Fv fun m a=>by rw[aMn,<-XR];exact(Li (zk h a) (mn h).1 hi (show(0:Rat)<1 by decide)).symm
def dN(n:Nat):NV:=(NV.fg (n/8) (ka (n% 8))).times (.int (-1))
theorem sL(n:Nat):(dN n).q=gW n:=by
 rw[dN,NV.uw,NV.yf,A2];rfl
theorem aKK(t b:ah)(ar aB:List Nat)(i j n w:Nat)(h:kA t b ar aB i j)(N:∀s∈b.aj,aS 30 (vP s.pt))(af:fu t)(O:n<32)(T:w<t.aK.length):
 al prog 44 [lR t b ar aB,.int .i64 n,.str (t.pk w).name] (.bool (decide ((jS t b ar aB i j n).2=0)&&kr t b ar aB j n w)):=by
 have k1:=aKL t b ar aB i j n h O;refine gA_ nf func44 mix ?_
 by_cases hy:(jS t b ar aB i j n).2=0
 case neg=>
  rw[decide_eq_false hy]at k1⊢;simp(maxDischargeDepth:=99) [f44,aa,c2_ k1]
 rw[decide_eq_true hy]at k1⊢;rw[a8];obtain⟨r0,r1⟩:=lG h.eZ;obtain⟨ag,_,hn,hc⟩:=mn h.eZ;have ab:=h.bj.2.1;have r:=N _ (bv (ah.dY ab));obtain⟨k,m0,l,c,H,J⟩:=go_of h.eZ (b.sp j).pt r n (dN n) (sL n);have o:=h.bj.2.2;have C:=ze n;have V:aS 8 (NV.fg (n/8) (ka (n% 8))).q:=by rw[NV.yf,A2];exact wJ
 have B:okB 900 (bK (dN n)):=⟨by show aS 900 (dN n).q;rw[sL];exact C.mono d_,⟨iD d_,iD d_⟩,iD d_⟩
 have k2:=N3 n O;have k3:=jx (-1) d_ d_;have k4:=yi (NV.fg (n/8) (ka (n% 8))) (.int (-1)) (V.mono d_) ((ke d_ d_:aL 2 (NF.int (-1)).q).mono d_);rw[show(NV.fg (n/8) (ka (n% 8))).times (.int (-1))=dN n from rfl]at k4;have k5:=J5 (dN n);rw[show(NB.mk (dN n) ⟨.int 0,.int 0⟩ (.int 0))=bK (dN n)from rfl]at k5;have k6:=ID t (.from (b.sp j).pt) (bK (dN n)) h.tl hn (by rw[fe];exact r.mono d_) B m0 l H;rw[J]at k6;have F:=yT h.tl hn (p:=.from (b.sp j).pt) (n:=bK (dN n)) (by rw[fe];exact r.mono d_) B c.kl;have z:t.dT (dN n).q k≠0:=by rw[sL];have:=c.pos;grind
 have E:(t.bD (.from (b.sp j).pt) (bK (dN n)) k).s.norm.q=0->(t.bD (.from (b.sp j).pt) (bK (dN n)) k).s.a.q≠0:=fun e=>by
  rw[B0]at e;exact absurd e (fun e=>(ee.1 e).elim z z)
 have hf:=LI t (b.sp j).pt (dN n) k z;rw[sL]at hf;have of:dK 1300 ((t.bD (.from (b.sp j).pt) (bK (dN n)) k).s.under (t.bD (.from (b.sp j).pt) (bK (dN n)) k).g):=zt hf (c.sz.mono d_) (iD d_) (iD d_);have k7:=Cb _ F E;have v:(t.bD (.from (b.sp j).pt) (bK (dN n)) k).w.q=t.bC k:=ah.rl t k;have k8:=Mc (t.bD (.from (b.sp j).pt) (bK (dN n)) k) (.from (b.sp j).pt) (bK (dN n)) F E of (by rw[v];exact ah.okW hn c.kl) (gE (ah.eg hn c.kl)) (by rw[fe];exact r.mono d_) B (by rw[NV.fU,v];exact wK ag hc c.kl);have hs:((t.bD (.from (b.sp j).pt) (bK (dN n)) k).share (.from (b.sp j).pt) (bK (dN n))).q=⟨sG t (vP (b.sp j).pt) n,0,0⟩:=by
  have Z:lh t (vP (b.sp j).pt) n=(vP (b.sp j).pt).add ((gW n).mul (t.fL (vP (b.sp j).pt) (gW n) k)):=by rw[lh,c.ex]
  have Y:(t.bD (.from (b.sp j).pt) (bK (dN n)) k).a.q=c7 (t.at k):=rfl;rw[sG,c.kq,Z,ah.shr,<-v,<-Y,XD.share,<-fe,<-sL];have u:=hf;rw[<-fe,<-sL]at u;generalize t.fL (NV.from (b.sp j).pt).q (dN n).q k=S,(t.bD (.from (b.sp j).pt) (bK (dN n)) k).s.under (t.bD (.from (b.sp j).pt) (bK (dN n)) k).g=f,(t.bD (.from (b.sp j).pt) (bK (dN n)) k).w=W,(t.bD (.from (b.sp j).pt) (bK (dN n)) k).a=A at*;generalize NV.from (b.sp j).pt=p,dN n=D at*;have e1:f.a.q=S:=congrArg S3.a u;have e2:f.b.q=0:=congrArg S3.b u;have e3:f.d.q=0:=congrArg S3.d u;have e4:((p.sub A).dot W).q=(p.q.sub A.q).dot W.q:=by rw[NV.fU,NV.dJ]
  show S3.mk ((f.a.q*(D.q.dot W.q)+f.b.q*((0:Rat)*W.q.x+0*W.q.y)*f.d.q+((p.sub A).dot W).q)*(W.q.dot W.q)⁻¹) ((f.a.q*((0:Rat)*W.q.x+0*W.q.y)+(D.q.dot W.q)*f.b.q+(0:Rat))*(W.q.dot W.q)⁻¹) f.d.q=_;rw[e1,e2,e3,e4,ec];generalize (W.q.dot W.q)⁻¹=I;simp only[V2.dot,V2.sub,V2.add,V2.mul];congr 1<;>grind
 have U:dK 1800 ((t.bD (.from (b.sp j).pt) (bK (dN n)) k).share (.from (b.sp j).pt) (bK (dN n))):=zt hs (c.sh.mono d_) (iD d_) (iD d_);have k9:=Lp t k _ af h.eZ c.kl U;have Q:yB t k ((t.bD (.from (b.sp j).pt) (bK (dN n)) k).share (.from (b.sp j).pt) (bK (dN n)))=(t.pk w).name↔mG t (vP (b.sp j).pt) n=w:=by
  have ad:mG t (vP (b.sp j).pt) n=dO (fun m=>lF t (t.pk m) k (aN (sG t (vP (b.sp j).pt) n))) t.aK.length:=by rw[mG,c.kq]
  rw[yB,hs,Yx h.eZ _ _ c.kl,<-ad];have aj:mG t (vP (b.sp j).pt) n<=t.aK.length:=(oY _ _).1
  split
  ·rename_i ac;exact MY h.eZ ac T
  ·constructor
   ·intro e;exact absurd e.symm (VZ h.eZ T)
   ·intro e;omega
 have G:((NV.from (b.sp j).pt).add ((dN n).times ((t.bD (.from (b.sp j).pt) (bK (dN n)) k).s.under (t.bD (.from (b.sp j).pt) (bK (dN n)) k).g).a)).q=lh t (vP (b.sp j).pt) n:=by
  rw[NV.F1,NV.uw,fe,sL,lh,c.ex];have:((t.bD (.from (b.sp j).pt) (bK (dN n)) k).s.under (t.bD (.from (b.sp j).pt) (bK (dN n)) k).g).a.q=t.fL (vP (b.sp j).pt) (gW n) k:=congrArg S3.a hf;rw[this]
 have jk:=yi (dN n) ((t.bD (.from (b.sp j).pt) (bK (dN n)) k).s.under (t.bD (.from (b.sp j).pt) (bK (dN n)) k).g).a (by rw[sL];exact C.mono d_) (of.1.mono d_);have nw:=N2 (.from (b.sp j).pt) ((dN n).times ((t.bD (.from (b.sp j).pt) (bK (dN n)) k).s.under (t.bD (.from (b.sp j).pt) (bK (dN n)) k).g).a) (by rw[fe];exact r.mono d_) (by rw[NV.uw,sL];exact(yP C of.1).mono d_);have nZ:=LJ t b (.from (b.sp j).pt) ((NV.from (b.sp j).pt).add ((dN n).times ((t.bD (.from (b.sp j).pt) (bK (dN n)) k).s.under (t.bD (.from (b.sp j).pt) (bK (dN n)) k).g).a)) [ar,aB] o_ o_ h.L (fun s hs=>(N s hs).mono d_) s_ (by rw[fe];exact r.mono d_) (by rw[G];exact c.at_);rw[G,fe]at nZ;simp only[bw,bV]at nZ;rw[kr];have M:ig (t.bD (.from (b.sp j).pt) (bK (dN n)) k)=.st 159 [vQ k (di (t.at k)) (t.cJ k),eF (t.bD (.from (b.sp j).pt) (bK (dN n)) k).g,ct (t.bD (.from (b.sp j).pt) (bK (dN n)) k).s]:=rfl;rw[M]at k6 k7 k8;clear M G hs hf of E z F U H J B V C v c r;generalize ae:yB t k ((t.bD (.from (b.sp j).pt) (bK (dN n)) k).share (.from (b.sp j).pt) (bK (dN n)))=X at*;clear ae;generalize (t.bD (.from (b.sp j).pt) (bK (dN n)) k).share (.from (b.sp j).pt) (bK (dN n))=sh,(t.bD (.from (b.sp j).pt) (bK (dN n)) k).s.under (t.bD (.from (b.sp j).pt) (bK (dN n)) k).g=fr at*;generalize (t.bD (.from (b.sp j).pt) (bK (dN n)) k).g=ak,(t.bD (.from (b.sp j).pt) (bK (dN n)) k).s=xs at*;have K:kj (bK (dN n))=.st 162 [bQ (dN n),bQ ⟨.int 0,.int 0⟩,eF (.int 0)]:=rfl;rw[K]at k5 k6 k8;clear K;generalize dN n=D at*;rw[show decide (mG t (vP (b.sp j).pt) n=w)=decide (X=(t.pk w).name)from decide_eq_decide.2 Q.symm];clear Q;generalize ic t.aC (vP (b.sp j).pt) (lh t (vP (b.sp j).pt) n) [ar,aB] b.aj=R,(t.pk w).name=ai at*;simp[f44,aa];refine c2_ k1 ?_;simp[o,aa];refine e1_ k2 ?_;simp[o,aa];refine e1_ k3 ?_;simp[o,aa];refine e2_ k4 ?_;simp[o,aa];refine e1_ k5 ?_;simp[o,aa];refine⟨r_,?_⟩;refine c3_ k6 ?_;simp[o,aa];refine e1_ k7 ?_;simp[o,aa];refine e2_ jk ?_;simp[o,aa];refine e2_ nw ?_;simp[o,aa];refine⟨r_,?_⟩;refine e3_ k8 ?_;simp[o,aa];refine e3_ k9 ?_
 by_cases P:X=ai
 case neg=>
  simp[P,aa]
 subst P;simp[aa];refine ep nZ t_ t_ ?_;rcases R with _|⟨x,R⟩<;>simp[aa]<;>rfl
def ui(t b:ah)(ar aB:List Nat)(i j w n:Nat):Bool:=decide ((jS t b ar aB i j n).2=0)&&kr t b ar aB j n w
def iW(t b:ah)(ar aB:List Nat)(i j w m:Nat):List Nat:=(b4 m).filter (ui t b ar aB i j w)
theorem Yw(t b:ah)(ar aB:List Nat)(i j w m:Nat):iW t b ar aB i j w (m+1)=iW t b ar aB i j w m++(if ui t b ar aB i j w m=true then[m]else[]):=by
 rw[iW,b3,cd,<-iW]
 by_cases h:ui t b ar aB i j w m=true
 ·simp[h]
 ·simp[h]
theorem LU(t b:ah)(ar aB:List Nat)(i j w m:Nat):(iW t b ar aB i j w m).length<=m:=by
 have:=ca (ui t b ar aB i j w) (b4 m);rw[List.length_range]at this;exact this
theorem aMa(t b:ah)(ar aB:List Nat)(i j n w:Nat)(h:kA t b ar aB i j)(a:∀s∈b.aj,aS 30 (vP s.pt))(c:fu t)(hn:n<32)(d:w<t.aK.length):
 c8 prog 43 [.box false (.p (.str (t.pk w).name))] [.p (lR t b ar aB),.p (.int .i64 n),.ptr 0 []] [.box false (.p (.str (t.pk w).name))] (.p (.bool (ui t b ar aB i j w n))):=by
 have k:=aKK t b ar aB i j n w h a c hn d;rw[ui];generalize (decide ((jS t b ar aB i j n).2=0)&&kr t b ar aB j n w)=r at*;refine gz nf (i_ func43) mix (by simp[f43]) ?_;simp[f43,aa];refine c3_ k ?_;simp[aa];exact dh.og s_ s_ s_ s_ s_
theorem aL9(t b:ah)(ar aB:List Nat)(i j w:Nat)(h:kA t b ar aB i j)(f:∀s∈b.aj,aS 30 (vP s.pt))(g:fu t)(k:w<t.aK.length):
 c8 prog 42 [.box false (.p (.str (t.pk w).name))] [.p (lR t b ar aB),.p (.int .i64 32),.func 43 [] [.ptr 0 []]]
  [.box false (.p (.str (t.pk w).name)),.hole,.arr .grow (iW t b ar aB i j w 32).length 1 ((iW t b ar aB i j w 32).map (AV.p∘jM))] (.sl 2 (iW t b ar aB i j w 32).length 1 0 (iW t b ar aB i j w 32).length):=by
 have a:=fun n(hn:n<32)=>aMa t b ar aB i j n w h f g hn k;have q:(1000:Nat)<dA:=d_
 generalize (t.pk w).name=l at*;refine gz nf (i_ func42) mix (by simp[f42]) ?_;simp[f42,aa];refine lp (α:=Nat) (fun m=>⟨[(10,.p (.int .i64 m)),(9,.p (.int .i64 32)),(7,.sl 2 (iW t b ar aB i j w m).length 1 0 (iW t b ar aB i j w m).length),(3,.ptr 1 []),(2,.func 43 [] [.ptr 0 []])],
  [.box false (.p (.str l)),.box false (.p (lR t b ar aB)),.arr .grow (iW t b ar aB i j w m).length 1 ((iW t b ar aB i j w m).map (AV.p∘jM))]⟩) (fun m=>m<=32) (fun m=>32-m) 0 s_ ?_ (he:=by simp[iW]) (hh:=by simp[iW])
 rintro m m1
 by_cases hm:m<32
 ·have e:=b8 (i:=m) o_;have hs:=Yw t b ar aB i j w m;have o:=LU t b ar aB i j w m;have a:=a m hm;have d:(m:Int)<32:=by omega
  cases c:ui t b ar aB i j w m
  ·rw[c,if_neg d_,c6]at hs;rw[c]at a;simp[d,aa];refine cf a [0] ?_;simp[bu,sig,e,aa];exact rd (m+1) o_ (he:=by simp[hs]) (hh:=by simp[hs])
  ·rw[c,if_pos rfl]at hs;rw[c]at a;simp[d,aa];refine cf a [0] ?_;simp[bu,sig,e,aa];exact⟨o_,rd (m+1) o_ (he:=by simp[hs]) (hh:=by simp[hs,jM])⟩
 ·have:m=32:=by omega
  subst this;simp[aa];exact dh.og s_ s_ s_ s_ s_
theorem aDP(t b:ah)(ar aB name:List Nat)(i j w:Nat)(a:fu t)(f:im b)(e:gf t b ar aB=0)(h:kA t b ar aB i j)(g:∀s∈b.aj,aS 30 (vP s.pt))(d:lx t name=w)(c:w<t.aK.length):
 al prog 7 [jC t b ar aB,.str name] (.aE [.seq ((iW t b ar aB i j w 32).map jM),.int .i64 0]):=by
 have k1:=zn t b ar aB a f e;have k2:=FO t name w a.pl d c;have k3:=aL9 t b ar aB i j w h g a c;rw[Lw d c]at k3;generalize iW t b ar aB i j w 32=L at*;refine gA_ nf func7 mix ?_;simp[f7,aa];refine c1_ k1 ?_;simp[aa];refine c2_ k2 ?_;simp[aa];refine cf k3 [1] ?_;simp[bu,sig,aa]
theorem Yl(t b:ah)(ar aB name:List Nat)(a:fu t)(d:im b)(c:gf t b ar aB=0)(e:lx t name= -1):
 al prog 7 [jC t b ar aB,.str name] (.aE [.aM,.int .i64 10]):=by
 have k1:=zn t b ar aB a d c;have k2:=Mf t name a.pl e;refine gA_ nf func7 mix ?_;simp(maxDischargeDepth:=99) [f7,aa,c1_ k1,c2_ k2]
theorem Ym(t b:ah)(ar aB name:List Nat)(c:fu t)(a:im b)(h:¬gf t b ar aB=0):
 al prog 7 [jC t b ar aB,.str name] (.aE [.aM,.int .i64 (gf t b ar aB)]):=by
 have k1:=Md t b ar aB c a h;generalize gf t b ar aB=e at*;refine gA_ nf func7 mix ?_;simp[f7,aa,h,c1_ k1]
theorem aCw(t b:ah)(ar aB:List Nat)(i j w:Nat)(h:kA t b ar aB i j)(f:∀s∈b.aj,aS 30 (vP s.pt))(l:fu t)(o:w<t.aK.length):
 al prog 15 [jt t b ar aB,.int .i64 w] (.seq ((iW t b ar aB i j w 32).map jM)):=by
 have k1:=aCs t b ar aB i j h;have v:(1000:Nat)<dA:=d_
 have r:(kI t b ar aB i j 32).length<=32:=Lt t b ar aB i j 32;have g:∀n∈kI t b ar aB i j 32,n<32:=fun n hn=>by
  rw[kI]at hn;exact c9.1 (List.mem_filter.1 hn).1
 have k:iW t b ar aB i j w 32=(kI t b ar aB i j 32).filter (fun n=>kr t b ar aB j n w):=by
  rw[iW,kI,List.filter_filter];congr 1
  funext n
  rw[ui,Bool.and_comm]
 rw[k];have kG:=fun n(hn:n<32)=>aAT t b ar aB i j n w h f l hn o;generalize kI t b ar aB i j 32=S at*;refine gA_ nf func15 mix ?_;simp[f15,aa];refine c1_ k1 ?_;simp[aa];refine lp (α:=Nat) (fun m=>⟨[(7,.p (.int .i64 m)),(6,.p (.seq (S.map jM))),(5,.sl 1 ((S.take m).filter (fun n=>kr t b ar aB j n w)).length 1 0 ((S.take m).filter (fun n=>kr t b ar aB j n w)).length),(2,.ptr 0 []),(1,.p (.int .i64 w))],
  [.box false (.p (jt t b ar aB)),.arr .grow ((S.take m).filter (fun n=>kr t b ar aB j n w)).length 1 (((S.take m).filter (fun n=>kr t b ar aB j n w)).map (AV.p∘jM))]⟩) (fun m=>m<=S.length) (fun m=>S.length-m) 0 s_ ?_ (he:=s_) (hh:=s_)
 rintro m m1
 by_cases hm:m<S.length
 ·have e:=b8 (i:=m) o_;obtain⟨n,a⟩:∃n,S[m]?=some n:=⟨S[m],List.getElem?_eq_getElem hm⟩
  have hn:=g n (bv a);have d:S[m]=n:=(List.getElem?_eq_some_iff.1 a).2;have kG:=kG n hn;have hs:(S.take (m+1)).filter (fun n=>kr t b ar aB j n w)=(S.take m).filter (fun n=>kr t b ar aB j n w)++(if kr t b ar aB j n w=true then[n]else[]):=by
   rw[List.take_add_one,a,cd]
   by_cases h:kr t b ar aB j n w=true
   ·simp[h]
   ·simp[h]
  have u:((S.take m).filter (fun n=>kr t b ar aB j n w)).length<=m:=by
   refine dy (ca _ _) ?_;rw[List.length_take];omega
  generalize q:(S.take m).filter (fun n=>kr t b ar aB j n w)=Q at*;cases c:kr t b ar aB j n w
  ·rw[c,if_neg d_,c6]at hs;rw[c]at kG;simp[hm,a,d,jM,aa];refine e3_ kG ?_;simp[e,aa];exact rd (m+1) o_ (he:=by simp[hs]) (hh:=by simp[hs])
  ·rw[c,if_pos rfl]at hs;rw[c]at kG;simp[hm,a,d,jM,aa];refine e3_ kG ?_;simp[hm,a,d,jM,e,aa];exact⟨o_,rd (m+1) o_ (he:=by simp[hs]) (hh:=by simp[hs,jM])⟩
 ·have:m=S.length:=by omega
  subst this;simp[aa]
theorem aKZ(t b:ah)(ar:List Nat)(d:bS)(i:Nat)(x:XD)(e:Rat)(h:yn t b ar d i x e)(a:none=gH t b i (vP d) e b.aj.length):
 al prog 50 [jV t b,.str ar,bQ (.from d)] (.aE [.str [],.str [],.int .i64 7]):=by
 have k1:=Me t b ar i d x e h.C h.dk h.nz h.E;rw[<-a,ny,pW]at k1;have hz:aP zM=.agg 147:=rfl;generalize zM=z at*;refine gA_ nf func50 mix ?_;simp[f50,aa,hz,c3_ k1]
def Es(b:ah)(aB name a p:List Nat)(c:Int):Int:=if c=0/\a=aB/\p=name then 0 else 21
theorem Lm(t b:ah)(ar aB name a p:List Nat)(d:bS)(w:Nat)(c:Int)(g:fu t)(j:im b)(f:ku d)(i:gf t b ar aB=0)(k:lx t name=w)(l:w<t.aK.length)(e:gV d=0)
 (h:al prog 50 [jV t b,.str ar,bQ (.from d)] (.aE [.str a,.str p,.int .i64 c])):
 al prog 9 [jC t b ar aB,.str name,et d] (.int .i64 (Es b aB name a p c)):=by
 have k1:=zn t b ar aB g j i;have k2:=FO t name w g.pl k l;have k3:=pz false 10;have k4:=F6 d f;have k5:=zP [0,0] s_;have k6:=Sl d (Ln e).1 (Ln e).2 f;have k7:=pz true 21;have k8:=pz false 21;rw[e]at k4;rw[show aZ false 10=0 from rfl]at k3;rw[show bN [0,0]=0 by decide]at k5;rw[show aZ true 21=21 from rfl]at k7;rw[show aZ false 21=0 from rfl]at k8;simp only[bw,bV]at k5;rw[Es];refine gA_ nf func9 mix ?_;simp[f9,aa];refine c1_ k1 ?_;simp[aa];refine c2_ k2 ?_;simp[aa];refine e2_ k3 ?_;simp[aa];refine e1_ k4 ?_;simp[aa];refine ep k5 t_ t_ ?_;simp[aa];refine⟨r_,?_⟩;refine e1_ k6 ?_;simp[aa];refine e3_ h ?_
 by_cases c1:c=0
 case neg=>simp+decide [c1,aa,c2_ k7]
 by_cases c2:a=aB
 case neg=>simp+decide [c1,c2,aa,c2_ k7]
 by_cases c3:p=name
 case neg=>
  have c4:(p==name)=false:=beq_false_of_ne c3;simp+decide [c1,c2,c3,c4,aa,c2_ k7]
 simp+decide [c1,c2,c3,aa,c2_ k8]
theorem XF(t b:ah)(ar aB name:List Nat)(d:bS)(w:Nat)(c:fu t)(f:im b)(g:ku d)(e:gf t b ar aB=0)(h:lx t name=w)(i:w<t.aK.length)(a:¬gV d=0):
 al prog 9 [jC t b ar aB,.str name,et d] (.int .i64 (gV d)):=by
 have k1:=zn t b ar aB c f e;have k2:=FO t name w c.pl h i;have k3:=pz false 10;have k4:=F6 d g;have k5:=zP [0,gV d] s_;rw[show aZ false 10=0 from rfl]at k3;rw[show bN [0,gV d]=gV d by rw[bN,if_pos rfl,bN,if_neg a]]at k5;simp only[bw,bV]at k5;generalize gV d=j at*;refine gA_ nf func9 mix ?_;simp[f9,aa];refine c1_ k1 ?_;simp[aa];refine c2_ k2 ?_;simp[aa];refine e2_ k3 ?_;simp[aa];refine e1_ k4 ?_;simp[aa];refine ep k5 t_ t_ ?_;simp[aa];refine⟨r_,?_⟩;simp[a,aa]
theorem XE(t b:ah)(ar aB name:List Nat)(d:bS)(a:fu t)(e:im b)(f:ku d)(c:gf t b ar aB=0)(g:lx t name= -1):
 al prog 9 [jC t b ar aB,.str name,et d] (.int .i64 10):=by
 have k1:=zn t b ar aB a e c;have k2:=Mf t name a.pl g;have k3:=pz true 10;have k4:=F6 d f;have k5:=zP [10,gV d] s_;rw[show aZ true 10=10 from rfl]at k3;rw[show bN [10,gV d]=10 by rw[bN,if_neg d_]]at k5;simp only[bw,bV]at k5;generalize gV d=h at*;refine gA_ nf func9 mix ?_;simp[f9,aa];refine c1_ k1 ?_;simp[aa];refine c2_ k2 ?_;simp[aa];refine e2_ k3 ?_;simp[aa];refine e1_ k4 ?_;simp[aa];refine ep k5 t_ t_ ?_;simp[aa];rfl
theorem XG(t b:ah)(ar aB name:List Nat)(d:bS)(c:fu t)(a:im b)(h:¬gf t b ar aB=0):
 al prog 9 [jC t b ar aB,.str name,et d] (.int .i64 (gf t b ar aB)):=by
 have k1:=Md t b ar aB c a h;generalize gf t b ar aB=e at*;refine gA_ nf func9 mix ?_;simp[f9,aa,h,c1_ k1]
theorem XH(t b:ah)(ar aB name:List Nat)(d:bS)(i w:Nat)(x:XD)(e:Rat)(D:fu t)(H:im b)(M:ku d)(L:gf t b ar aB=0)(I:lx t name=w)(y:w<t.aK.length)(A:gV d=0)
 (c:yn t b ar d i x e)(O:∀p∈t.aK,aL 30 (aO p.a)/\aL 30 (aO p.b)):
 ∃r:Int,al prog 9 [jC t b ar aB,.str name,et d] (.int .i64 r)/\al prog 13 [jt t b ar aB,.int .i64 w,et d] (.int .i64 r):=by
 obtain⟨S,hx⟩:=c.ef;have n:=zo b ar H.sl;have f:=Lr t b ar i (vP d) S e c.C c.dk c.nz hx c.E.sz;rw[<-V0 (Au A).1]at f;have hi:jU b ar=i:=c.C.ci.1;rw[hi]at n;cases m:gH t b i (vP d) e b.aj.length with
 |none=>
  rw[m,iJ,oC]at f;have F:=Lm t b ar aB name [] [] d w 7 D H M L I y A (aKZ t b ar d i x e c m.symm);rw[Es,if_neg (fun h=>absurd h.1 d_)]at F;refine⟨21,F,?_⟩;refine gA_ nf func13 mix ?_;simp(maxDischargeDepth:=99) [f13,aa,c2_ n,c4_ f]
 |some j=>
  rw[m,iJ,oC]at f;have G:=FP c m.symm;have s:=G.jl;have z:=ah.dY s;obtain⟨k,m0,l,e1,e2,e3,e4,e5⟩:=G.end;have q:=aKY t b ar d i j k x e m0 l D c m.symm e1 e2 e3 e4;have kq:=aCX t b ar i j k d x e D c m.symm O e1 e2 e5;rw[<-V0 (Au A).1]at kq;rw[Jn]at q;rw[Jo]at kq;have Q:=Lw I y;have R:Bv t (qZ t b i d j k)=name↔jA (qZ t b i d j k) t.aK.length=(w:Int):=by
   have T:qZ t b i d j k<=t.aK.length:=(oY _ _).1;rw[Bv,jA,<-Q]
   split
   ·rename_i P;rw[MY c.C.eZ P y];omega
   ·constructor
    ·intro e;exact absurd e.symm (VZ c.C.eZ y)
    ·intro e;omega
  clear e1 e2 e3 e4 e5 G m c hx;generalize Bv t (qZ t b i d j k)=U,jA (qZ t b i d j k) t.aK.length=o,fS t b i (vP d) j=s0 at*
  have K:∀(a p:List Nat)(g o':Int),al prog 50 [jV t b,.str ar,bQ (.from d)] (.aE [.str a,.str p,.int .i64 g])->
   al prog 55 [cA t,.seq (b.aj.map bP),.int .i64 i,et d] (.aE [.int .i64 j,.int .i64 o',.int .i64 g])->(g=0->a=(b.sp j).name/\(p=name↔o'=(w:Int)))->
   ∃r:Int,al prog 9 [jC t b ar aB,.str name,et d] (.int .i64 r)/\al prog 13 [jt t b ar aB,.int .i64 w,et d] (.int .i64 r):=fun a p g o' q1 J N=>by
   have F:=Lm t b ar aB name a p d w g D H M L I y A q1;refine⟨_,F,?_⟩;rw[Es];refine gA_ nf func13 mix ?_;have B:¬(j:Int)<0:=o_
   by_cases c1:(b.sp j).name=aB
   case neg=>
    have hn:¬(g=0/\a=aB/\p=name):=fun⟨u,v,_⟩=>c1 ((N u).1▸v);rw[if_neg hn];simp(maxDischargeDepth:=99) [f13,aa,s,z,c1,B,c2_ n,c4_ f]
   by_cases c2:g=0
   case neg=>
    rw[if_neg (fun h=>c2 h.1)];simp(maxDischargeDepth:=99) [f13,aa,s,z,c1,B,c2,c2_ n,c4_ f,c4_ J]
   obtain⟨u,v⟩:=N c2
   by_cases c3:o'=(w:Int)
   ·rw[if_pos ⟨c2,u.trans c1,v.2 c3⟩];simp(maxDischargeDepth:=99) [f13,aa,s,z,c1,B,c2,c3,c2_ n,c4_ f,c4_ J]
   ·rw[if_neg (fun h=>c3 (v.1 h.2.2))];simp(maxDischargeDepth:=99) [f13,aa,s,z,c1,B,c2,c3,c2_ n,c4_ f,c4_ J]
  cases aY:zu t b i d j k<;>rw[aY]at q kq
  ·rw[if_neg d_]at q kq;exact K _ _ _ _ q kq (fun _=>⟨rfl,R⟩)
  ·rw[if_pos rfl]at q kq;exact K _ _ _ _ q kq (fun h=>absurd h d_)
theorem Yc(l:al prog 6 [] (.bool true))(t b:ah)(ar aB name:List Nat)(d:bS)(c:fu t)(f:im b)(s:ku d):
 al prog 3 [jt t b ar aB,.str name,et d] (.bool true):=by
 have s0:=Yo t b ar aB 6 c f d_;rw[show((6:Nat):Int)=6 from rfl]at s0;have o:=aK2 d s;have k1:=XV t b ar aB c f;have k2:=aK1 t b ar aB c f;have n:=Yf t name c.pl;have I:=Zd d s;refine gA_ nf func3 mix ?_;rcases u:rE t b ar aB 6 with _|_
 ·rw[u]at s0;simp(maxDischargeDepth:=99) [f3,aa,c2_ s0,c0 l]
 rw[u]at s0
 by_cases N:40<name.length
 ·have m:(40:Int)<name.length:=by omega
  simp(maxDischargeDepth:=99) [f3,aa,m,c2_ s0,c0 l]
 have m:¬(40:Int)<name.length:=o_
 rcases B:Aq d with _|_
 ·rw[B]at o;simp(maxDischargeDepth:=99) [f3,aa,m,c2_ s0,c1_ o,c0 l]
 rw[B]at o
 by_cases a:gf t b ar aB=0
 case neg=>
  have p:=Ym t b ar aB name c f a;have q:=XG t b ar aB name d c f a;generalize gf t b ar aB=e at*;simp(maxDischargeDepth:=99) [f3,aa,m,a,c0 l,c2_ s0,c1_ o,c1_ k2,c2_ p,e1_ k2,e3_ q,c1_ k1]
 obtain⟨i,j,v⟩:=aOS c f u a;rcases X5 t name with k|⟨w,k,z⟩
 ·have p:=Yl t b ar aB name c f a k;have q:=XE t b ar aB name d c f s a k;rw[a]at k1;rw[k]at n;simp(maxDischargeDepth:=99) [f3,aa,m,c0 l,c2_ s0,c1_ o,c1_ k2,c2_ p,e1_ k2,e3_ q,c1_ k1,c2_ n]
 have A:gh t b=0:=by
  rw[gf]at a
  by_cases h:gh t b=0
  ·exact h
  ·rw[if_pos h]at a;exact absurd a h
 have y:=Yj u A;have p:=aDP t b ar aB name i j w c f a v y k z;have C:=aCw t b ar aB i j w v y c z;have D:=Ye (iW t b ar aB i j w 32) (dy (LU _ _ _ _ _ _ _ _) d_);have E:¬(w:Int)<0:=o_
 rw[a]at k1;rw[k]at n;have J:∃r:Int,al prog 9 [jC t b ar aB,.str name,et d] (.int .i64 r)/\(¬gV d=0/\r=gV d\/gV d=0/\al prog 13 [jt t b ar aB,.int .i64 w,et d] (.int .i64 r)):=by
  by_cases g:gV d=0
  case neg=>exact⟨_,XF t b ar aB name d w c f s a k z g,.inl ⟨g,rfl⟩⟩
  have F:Bx t b ar d=0:=by
   rw[Bx,if_neg (by simp[A]),if_neg]
   ·exact g
   ·intro e;have:=v.ci.2.2;rw[e]at this;cases this
  obtain⟨H,x,e,G⟩:=aAD c f F y (Zq B (Au g).1);obtain⟨r,q1,K⟩:=XH t b ar aB name d H w x e c f s a k z g G (Y3 u A);exact⟨r,q1,.inr ⟨g,K⟩⟩
 obtain⟨r,q,hc⟩:=J;clear v y;generalize iW t b ar aB i j w 32=L,gV d=M at*;simp[f3,aa];refine c2_ s0 ?_;simp[m,aa];refine c1_ o ?_;simp[aa];refine c1_ k2 ?_;simp[aa];refine c2_ p ?_;simp[aa];refine e1_ k2 ?_;simp[aa];refine e3_ q ?_;simp[aa];refine c1_ k1 ?_;simp[aa];refine c2_ n ?_;simp[E,aa];refine c1_ I ?_;rcases hc with⟨g,rfl⟩|⟨rfl,a5⟩
 ·simp(maxDischargeDepth:=99) [g,aa,e2_ n,e2_ C,e2_ D,e0_ l]
 ·simp(maxDischargeDepth:=99) [aa,e2_ n,e3_ a5,e2_ C,e2_ D,e0_ l]
end Go.ae
