import Derived.Test.YtenbmieafgdjaaaGreatDoorPD
import Derived.Deep.DeepHandedRow
import Derived.Deep.DeepWitnessRowRef
import Derived.Seven
import Derived.SevenTiedAt
import Derived.Test.YtenbmieafgdjaaaGreatDoorPA
import Derived.KernelRfl
import Derived.Shelf.Spec.BitsCarry
import Derived.Shelf.Strings.Builder1
import Derived.Shelf.Strings.Builder2
import Derived.Shelf.Strings.OnBuilder
import Derived.Shelf.Small.Utf8
import Derived.Shelf.Small.Bits
import Derived.Shelf.Small.Strs
import Derived.Shelf.Small.Wraps
import Derived.Shelf.Strings.BuilderF
import Derived.Shelf.Strconv.Atoi
import Derived.Shelf.Strconv.Itoa0
import Derived.Shelf.Strconv.Itoa1
import Derived.Shelf.LaysM
import Derived.Shelf.Strconv.AtoiErrFast
import Derived.Shelf.Strconv.ParseIntEmpty
import Derived.Shelf.Strconv.AtoiFail
import Derived.Shelf.Strconv.Clone
import Derived.Shelf.Strconv.Lower
import Derived.Shelf.Strconv.ParseUint10
import Derived.Shelf.Strconv.ParseUint10Empty
import Derived.Shelf.Strconv.RangeError
import Derived.Shelf.Strings.Search1
import Derived.Shelf.Strings.Search2
import Derived.Shelf.Strings.Search3
import Derived.Shelf.Strings.Cut
import Derived.Shelf.Strings.Count
import Derived.Shelf.Strings.Shaped
import Derived.Shelf.Strings.Prefix
import Derived.Shelf.Strings.Runes
import Derived.Shelf.Strings.AsciiSet
import Derived.Shelf.Bits.Mul64
import Derived.Shelf.Strings.Repeat
import Derived.Shelf.Unicode.DecodeSlow
import Derived.Test.YtenbmieafgdjaaaGreatDoorProg
/- Parts of a proof. -/
set_option linter.unusedSimpArgs false
set_option linter.unusedVariables false
set_option linter.unusedSectionVars false
open Go.Proofs.Tryz
open Go renaming World->am, FuncId->an, Program->ao, Value->ap, OpenSpec->ar, run_callFunc_extern->av, Checked->ax, ReturnsInHanded->ay, Calls->aT
open Go.IntKind renaming i64->a0, u64->a1
open List renaming range->a2, ext_getElem->a6, take_of_length_le->a7, take_succ_eq_append_getElem->a8, mem_map->bb, map_cons->be, map_map->bi, map_congr_left->bk, getElem?_range->bl, getElem_range->bo, length_range->bv, getElem?_map->b0, length_cons->b1, getElem_set->b2, getElem_map->b3, cons_append->b4, length_map->b5, replicate->cb
open Nat renaming mul_comm->cc, div_lt_iff_lt_mul->ce, div_div_eq_div_mul->ck, mod_eq_of_lt->cv, pow_succ->cx, pow_pos->cy, mul_le_mul_right->cA, div_eq_of_lt->cB, add_mul_div_left->cC, mul_assoc->cN, mod_add_div->c6, div_add_mod->c9, mod_lt->da, le_div_iff_mul_le->db, mul_le_mul_left->dg, mul_add->dk, add_mul->dl, lt_of_lt_of_le->dp, lt_of_le_of_lt->dq, add_mul_div_right->dz, mul_lt_mul''->ea, pow_le_pow_right->eb, div_mul_le_self->ec, eq_zero_or_pos->ed, add_mul_mod_self_right->ee, add_mul_mod_self_left->ei, pow_add->ej, mod_one->em, add_comm->en, div_lt_self->eo, mod_mul_right_mod->eq, div_le_div_right->ew, lt_or_ge->e6, one_mul->e7, mul_pos->e8, add_mod->e9, mul_mod_mul_left->fb, mod_mul->fd, le_refl->fl, div_one->fm, mul_right_comm->fv, lt_div_mul_add->fN, add_sub_cancel->gb, mul_left_comm->gc, add_mod_right->ge, lt_succ_self->gg, strongRecOn->gi, mul_add_div->gj, mul_le_mul->gl, zero_add->gm, pow_zero->gt, add_zero->gx
namespace Go.au
open Go.Proofs
section
variable{H:Type}{enc:TypeId×ap->H}
theorem FP{p:Pinned}{C:ax}{P:ao}(b:p.checked=C)(d:C.prog=P){s:ar}{c:OpenClaim}(f:an)(fn:Func)
 (l:c.program=p.name)(hs:c.sum=p.sum)(q:c.spec=s.name)
 (r:c.start=.entering)(o:c.outside=[])(ak:c.inits=[])(u:c.under=none)(i:c.initsInPlace=[]/\c.initsUnfollowed=false/\c.initsRecurse=false/\c.initsNamed=[]/\c.initsPassed=[])(n:c.noBlocks=false)(k:c.leaving=false)(g:c.followed=none)(m:c.narrowed=s.cond.isSome)(t:c.still=false)
 (e:P.funcNamed c.func=some f)(hf:P.funcs[f]?=some fn)
 (closed:joinedFacts P f fn s.bare c=true)
 (j:fn.isInstance P c.origin c.targs)(v:fn.isWrapper P c.wrapper c.mainSum)
 (h:∀os:Os,os.Started->∀(H:Type)(a:TypeId×ap->H)(F:Stop.Interp),
  ay c.assume C os f .any (s.preRow a P fn c.domain c.apart c.laid) ((s.at F).post a P fn c.apart c.fresh c.handsOn c.again)):c.holds p s:=by
 subst b;subst d;exact OpenClaim.holds_of_cond f fn l hs q r o ak u i n k g m t e hf closed j v (fun os st H a _ F=>by rw[OpenClaim.pre_eq_preRow];exact h os st H a F)
theorem NP{a:Assume}{C:ax}{P:ao}(q:C.prog=P){os:Os}{f:an}{fn:Func}{s:ar}{F:Stop.Interp}{h:List PathCond}{apart fresh handsOn again:Bool}{laid:List (String×DataW Unit)}
 (x:ownKnob P.godebug=none)(y:os.Started)(u:P.inits.idxOf? f=none)(r:P.funcs[f]?=some fn)
 (z:∃(w:am)(tape:Tape)(i:Input),w.os=os/\(w.forCall tape i).Shaped P/\i.vars=[]/\Input.okWide P (w.forCall tape i) .any w.heap.size f i/\
  s.preRow enc P fn h apart laid (w.forCall tape i).memory i.args/\a.holds P (lone (Frame.enter P f i.args .normal) [] (w.forCall tape i)))
 (wV:∀(W:am)(d:Nat)(args:Array ap)(b c:List (DataW H))(g:List MemPlace),
  (∀(j:Nat) t v,fn.params[j]?=some t->args[j]?=some v->Value.okWide P W .any d t v)->
  DataW.Whole enc P fn.params.toList s.vars apart W args.toList b c g->
  (∀k,s.cond=some k->k H (b++c)=true)->
  laidMetH P laid W->
  aT P f args W fun e l=>∃v,e=.returned v/\(s.at F).post enc P fn apart fresh handsOn again W args v l):
 ay a C os f .any (s.preRow enc P fn h apart laid) ((s.at F).post enc P fn apart fresh handsOn again):=by
 subst q;exact returnsInHanded_of_row x y u r z (fun W d args b c g m n _ o _ p _ _=>wV W d args b c g m n o p)
theorem MN{C:ax}{P:ao}(c:C.prog=P){os:Os}{f:an}{fn:Func}{s:ar}{b:List PathCond}{apart:Bool}{laid:List (String×DataW Unit)}(a:am)(args:Array ap)(e:a.os=os)
 (j:(a.forCall (fun _ _=>0) ⟨#[],args,[]⟩).variablesRefB P=true)
 (g:((a.forCall (fun _ _=>0) ⟨#[],args,[]⟩).heap.toList.drop P.globals.size).take ((begin P (fun _ _=>0) default).world.heap.size-P.globals.size)=
  (begin P (fun _ _=>0) default).world.heap.toList.drop P.globals.size)
 (d:Input.okWideB P (a.forCall (fun _ _=>0) ⟨#[],args,[]⟩) f ⟨#[],args,[]⟩=true)
 (h:s.preRow enc P fn b apart laid (a.forCall (fun _ _=>0) ⟨#[],args,[]⟩).memory args):
 ∃(w:am)(tape:Tape)(i:Input),w.os=os/\(w.forCall tape i).Shaped P/\i.vars=[]/\Input.okWide P (w.forCall tape i) .any w.heap.size f i/\
  s.preRow enc P fn b apart laid (w.forCall tape i).memory i.args/\({modest:=false}:Assume).holds P (lone (Frame.enter P f i.args .normal) [] (w.forCall tape i)):=by
 subst c;exact witness_row_atRef (C:=C) false a args e j g d h
theorem FV{p:Pinned}{C:ax}{P:ao}(m:p.checked=C)(n:C.prog=P)(d:Looks){s:ar}{c:OpenClaim}(kinds:List LaidKind)(e:Bool)(a:Bool×String)(b:Bool){g:an}{i:Func}
 (hc:c.holds p s)(A:c.wfByText s=true)(z:c.laidByTextAt d p kinds e)
 (aH:c.start=.entering)(w:c.noBlocks=false/\c.again=false)(u:P.mainIs=some (a.1,a.2.toList))(v:(!a.1&&a.2.isEmpty&&!b)=false)
 (o:P.funcNamed c.func=some g)(hf:P.funcs[g]?=some i)(r:b=P.looks [])(x:∀t∈i.params.toList,P.wantsStandIn t=false)
 (q:false=c.goesBy P):
 Claim7.holds p (.plain s) {stood:={row:=c,standIns:=[],harness:=a,looks:=b},kinds:=[],alts:=[],laidByText:=true,laidKinds:=kinds,laidTests:=e,laidLooks:=d}:=by
 subst m;subst n;refine Claim7.holds_tied_plain_at d [] kinds e a b hc (fun _ h=>by cases h) A (fun _ h=>by cases h) z aH w u v (fun f fn k l=>?_) q;rw[o]at k;cases k;rw[hf]at l;cases l;exact⟨r,fun j t y=>x t (by simpa using Array.mem_of_getElem? y)⟩
end
theorem zd:Go.Proofs.YtenbmieafgdjaaaGreatDoor.Tryz.pinned.checked=checked:=rfl
theorem pn:checked.prog=prog:=rfl
theorem FR:true=prog.looks []:=by kernel_rfl
theorem Rz:ownKnob prog.godebug=none:=by kernel_rfl
theorem mix:prog.follows .mixedOrders=true:=by kernel_rfl
abbrev nf:an->Bool:=fun _=>false
theorem ayD:aw prog 2 f2:=⟨func2,by kernel_rfl⟩
theorem azY:aw prog 3 f3:=⟨func3,by kernel_rfl⟩
theorem uR:aw prog 4 f4:=⟨func4,by kernel_rfl⟩
theorem ny:aw prog 5 f5:=⟨func5,by kernel_rfl⟩
theorem aDJ:aw prog 6 f6:=⟨func6,by kernel_rfl⟩
theorem aDT:aw prog 7 f7:=⟨func7,by kernel_rfl⟩
theorem aDZ:aw prog 8 f8:=⟨func8,by kernel_rfl⟩
theorem aD2:aw prog 9 f9:=⟨func9,by kernel_rfl⟩
theorem Qq:aw prog 10 f10:=⟨func10,by kernel_rfl⟩
theorem axn:aw prog 11 f11:=⟨func11,by kernel_rfl⟩
theorem axz:aw prog 12 f12:=⟨func12,by kernel_rfl⟩
theorem Qr:aw prog 13 f13:=⟨func13,by kernel_rfl⟩
theorem Qs:aw prog 14 f14:=⟨func14,by kernel_rfl⟩
theorem Qt:aw prog 15 f15:=⟨func15,by kernel_rfl⟩
theorem ayi:aw prog 16 f16:=⟨func16,by kernel_rfl⟩
theorem ayA:aw prog 17 f17:=⟨func17,by kernel_rfl⟩
theorem ayB:aw prog 18 f18:=⟨func18,by kernel_rfl⟩
theorem Qu:aw prog 19 f19:=⟨func19,by kernel_rfl⟩
theorem ayE:aw prog 20 f20:=⟨func20,by kernel_rfl⟩
theorem Qv:aw prog 21 f21:=⟨func21,by kernel_rfl⟩
theorem Qw:aw prog 22 f22:=⟨func22,by kernel_rfl⟩
theorem vo:aw prog 23 f23:=⟨func23,by kernel_rfl⟩
theorem yn:aw prog 24 f24:=⟨func24,by kernel_rfl⟩
theorem Qx:aw prog 25 f25:=⟨func25,by kernel_rfl⟩
theorem Qy:aw prog 26 f26:=⟨func26,by kernel_rfl⟩
theorem Qz:aw prog 27 f27:=⟨func27,by kernel_rfl⟩
theorem QA:aw prog 28 f28:=⟨func28,by kernel_rfl⟩
theorem ym:aw prog 29 f29:=⟨func29,by kernel_rfl⟩
theorem EM:aw prog 30 f30:=⟨func30,by kernel_rfl⟩
theorem QB:aw prog 31 f31:=⟨func31,by kernel_rfl⟩
theorem QC:aw prog 32 f32:=⟨func32,by kernel_rfl⟩
theorem QD:aw prog 33 f33:=⟨func33,by kernel_rfl⟩
theorem QE:aw prog 34 f34:=⟨func34,by kernel_rfl⟩
theorem QF:aw prog 35 f35:=⟨func35,by kernel_rfl⟩
theorem QG:aw prog 36 f36:=⟨func36,by kernel_rfl⟩
theorem QH:aw prog 37 f37:=⟨func37,by kernel_rfl⟩
theorem QI:aw prog 38 f38:=⟨func38,by kernel_rfl⟩
theorem QJ:aw prog 39 f39:=⟨func39,by kernel_rfl⟩
theorem aC2:aw prog 40 f40:=⟨func40,by kernel_rfl⟩
theorem QK:aw prog 41 f41:=⟨func41,by kernel_rfl⟩
theorem aC4:aw prog 42 f42:=⟨func42,by kernel_rfl⟩
theorem aC7:aw prog 43 f43:=⟨func43,by kernel_rfl⟩
theorem QL:aw prog 44 f44:=⟨func44,by kernel_rfl⟩
theorem aC8:aw prog 45 f45:=⟨func45,by kernel_rfl⟩
theorem aDb:aw prog 46 f46:=⟨func46,by kernel_rfl⟩
theorem aDc:aw prog 47 f47:=⟨func47,by kernel_rfl⟩
theorem aDl:aw prog 48 f48:=⟨func48,by kernel_rfl⟩
theorem aDn:aw prog 49 f49:=⟨func49,by kernel_rfl⟩
theorem aDo:aw prog 50 f50:=⟨func50,by kernel_rfl⟩
theorem aDp:aw prog 51 f51:=⟨func51,by kernel_rfl⟩
theorem aDs:aw prog 52 f52:=⟨func52,by kernel_rfl⟩
theorem aDt:aw prog 53 f53:=⟨func53,by kernel_rfl⟩
theorem aDv:aw prog 54 f54:=⟨func54,by kernel_rfl⟩
theorem aDw:aw prog 55 f55:=⟨func55,by kernel_rfl⟩
theorem QM:aw prog 56 f56:=⟨func56,by kernel_rfl⟩
theorem aDE:aw prog 57 f57:=⟨func57,by kernel_rfl⟩
theorem aDH:aw prog 58 f58:=⟨func58,by kernel_rfl⟩
theorem QN:aw prog 59 f59:=⟨func59,by kernel_rfl⟩
theorem aDK:aw prog 60 f60:=⟨func60,by kernel_rfl⟩
theorem aDL:aw prog 61 f61:=⟨func61,by kernel_rfl⟩
theorem aDM:aw prog 62 f62:=⟨func62,by kernel_rfl⟩
theorem aDO:aw prog 63 f63:=⟨func63,by kernel_rfl⟩
theorem aDP:aw prog 64 f64:=⟨func64,by kernel_rfl⟩
theorem aDQ:aw prog 65 f65:=⟨func65,by kernel_rfl⟩
theorem aDR:aw prog 66 f66:=⟨func66,by kernel_rfl⟩
theorem aDS:aw prog 67 f67:=⟨func67,by kernel_rfl⟩
theorem QO:aw prog 68 f68:=⟨func68,by kernel_rfl⟩
theorem QP:aw prog 69 f69:=⟨func69,by kernel_rfl⟩
theorem aDV:aw prog 70 f70:=⟨func70,by kernel_rfl⟩
theorem QQ:aw prog 71 f71:=⟨func71,by kernel_rfl⟩
theorem QR:aw prog 72 f72:=⟨func72,by kernel_rfl⟩
theorem QS:aw prog 73 f73:=⟨func73,by kernel_rfl⟩
theorem QT:aw prog 74 f74:=⟨func74,by kernel_rfl⟩
theorem QU:aw prog 75 f75:=⟨func75,by kernel_rfl⟩
theorem aDX:aw prog 76 f76:=⟨func76,by kernel_rfl⟩
theorem QV:aw prog 77 f77:=⟨func77,by kernel_rfl⟩
theorem QW:aw prog 78 f78:=⟨func78,by kernel_rfl⟩
theorem QX:aw prog 79 f79:=⟨func79,by kernel_rfl⟩
theorem QY:aw prog 80 f80:=⟨func80,by kernel_rfl⟩
theorem QZ:aw prog 81 f81:=⟨func81,by kernel_rfl⟩
theorem Q0:aw prog 82 f82:=⟨func82,by kernel_rfl⟩
theorem aD0:aw prog 83 f83:=⟨func83,by kernel_rfl⟩
theorem Q1:aw prog 84 f84:=⟨func84,by kernel_rfl⟩
theorem aD1:aw prog 85 f85:=⟨func85,by kernel_rfl⟩
theorem Q2:aw prog 86 f86:=⟨func86,by kernel_rfl⟩
theorem Q3:aw prog 87 f87:=⟨func87,by kernel_rfl⟩
theorem Q5:aw prog 88 f88:=⟨func88,by kernel_rfl⟩
theorem Q6:aw prog 89 f89:=⟨func89,by kernel_rfl⟩
theorem Q7:aw prog 90 f90:=⟨func90,by kernel_rfl⟩
theorem Q8:aw prog 91 f91:=⟨func91,by kernel_rfl⟩
theorem Q9:aw prog 92 f92:=⟨func92,by kernel_rfl⟩
theorem Ra:aw prog 93 f93:=⟨func93,by kernel_rfl⟩
theorem Rb:aw prog 94 f94:=⟨func94,by kernel_rfl⟩
theorem Rc:aw prog 95 f95:=⟨func95,by kernel_rfl⟩
theorem Rd:aw prog 96 f96:=⟨func96,by kernel_rfl⟩
theorem Re:aw prog 97 f97:=⟨func97,by kernel_rfl⟩
theorem EN:aw prog 98 f98:=⟨func98,by kernel_rfl⟩
theorem Rf:aw prog 99 f99:=⟨func99,by kernel_rfl⟩
theorem GG:aw prog 100 f100:=⟨func100,by kernel_rfl⟩
theorem GF:aw prog 101 f101:=⟨func101,by kernel_rfl⟩
theorem GD:aw prog 102 f102:=⟨func102,by kernel_rfl⟩
theorem GC:aw prog 103 f103:=⟨func103,by kernel_rfl⟩
theorem Ph:aw prog 104 f104:=⟨func104,by kernel_rfl⟩
theorem GB:aw prog 105 f105:=⟨func105,by kernel_rfl⟩
theorem Pg:aw prog 106 f106:=⟨func106,by kernel_rfl⟩
theorem Bv:aw prog 107 f107:=⟨func107,by kernel_rfl⟩
theorem GA:aw prog 108 f108:=⟨func108,by kernel_rfl⟩
theorem G8:aw prog 109 f109:=⟨func109,by kernel_rfl⟩
theorem G7:aw prog 110 f110:=⟨func110,by kernel_rfl⟩
theorem G6:aw prog 111 f111:=⟨func111,by kernel_rfl⟩
theorem G5:aw prog 112 f112:=⟨func112,by kernel_rfl⟩
theorem G4:aw prog 113 f113:=⟨func113,by kernel_rfl⟩
theorem axo:aw prog 114 f114:=⟨func114,by kernel_rfl⟩
theorem axr:aw prog 115 f115:=⟨func115,by kernel_rfl⟩
theorem axs:aw prog 116 f116:=⟨func116,by kernel_rfl⟩
theorem axu:aw prog 117 f117:=⟨func117,by kernel_rfl⟩
theorem axw:aw prog 118 f118:=⟨func118,by kernel_rfl⟩
theorem axy:aw prog 119 f119:=⟨func119,by kernel_rfl⟩
theorem axA:aw prog 120 f120:=⟨func120,by kernel_rfl⟩
theorem axB:aw prog 121 f121:=⟨func121,by kernel_rfl⟩
theorem axC:aw prog 122 f122:=⟨func122,by kernel_rfl⟩
theorem axE:aw prog 123 f123:=⟨func123,by kernel_rfl⟩
theorem axF:aw prog 124 f124:=⟨func124,by kernel_rfl⟩
theorem axG:aw prog 125 f125:=⟨func125,by kernel_rfl⟩
theorem axH:aw prog 126 f126:=⟨func126,by kernel_rfl⟩
theorem axI:aw prog 127 f127:=⟨func127,by kernel_rfl⟩
theorem axJ:aw prog 128 f128:=⟨func128,by kernel_rfl⟩
theorem axK:aw prog 129 f129:=⟨func129,by kernel_rfl⟩
theorem axL:aw prog 130 f130:=⟨func130,by kernel_rfl⟩
theorem axM:aw prog 131 f131:=⟨func131,by kernel_rfl⟩
theorem axN:aw prog 132 f132:=⟨func132,by kernel_rfl⟩
theorem axO:aw prog 133 f133:=⟨func133,by kernel_rfl⟩
theorem Ib:aw prog 134 f134:=⟨func134,by kernel_rfl⟩
theorem axP:aw prog 135 f135:=⟨func135,by kernel_rfl⟩
theorem Ia:aw prog 136 f136:=⟨func136,by kernel_rfl⟩
theorem H9:aw prog 137 f137:=⟨func137,by kernel_rfl⟩
theorem axT:aw prog 138 f138:=⟨func138,by kernel_rfl⟩
theorem H8:aw prog 139 f139:=⟨func139,by kernel_rfl⟩
theorem IL:aw prog 140 f140:=⟨func140,by kernel_rfl⟩
theorem axV:aw prog 141 f141:=⟨func141,by kernel_rfl⟩
theorem IK:aw prog 142 f142:=⟨func142,by kernel_rfl⟩
theorem IJ:aw prog 143 f143:=⟨func143,by kernel_rfl⟩
theorem II:aw prog 144 f144:=⟨func144,by kernel_rfl⟩
theorem Pf:aw prog 145 f145:=⟨func145,by kernel_rfl⟩
theorem Pe:aw prog 146 f146:=⟨func146,by kernel_rfl⟩
theorem Ea:aw prog 147 f147:=⟨func147,by kernel_rfl⟩
theorem ax9:aw prog 148 f148:=⟨func148,by kernel_rfl⟩
theorem aya:aw prog 149 f149:=⟨func149,by kernel_rfl⟩
theorem Eo:aw prog 150 f150:=⟨func150,by kernel_rfl⟩
theorem ayb:aw prog 151 f151:=⟨func151,by kernel_rfl⟩
theorem ayc:aw prog 152 f152:=⟨func152,by kernel_rfl⟩
theorem ayd:aw prog 153 f153:=⟨func153,by kernel_rfl⟩
theorem aye:aw prog 154 f154:=⟨func154,by kernel_rfl⟩
theorem ayf:aw prog 155 f155:=⟨func155,by kernel_rfl⟩
theorem ayg:aw prog 156 f156:=⟨func156,by kernel_rfl⟩
theorem IH:aw prog 157 f157:=⟨func157,by kernel_rfl⟩
theorem IG:aw prog 158 f158:=⟨func158,by kernel_rfl⟩
theorem IF:aw prog 159 f159:=⟨func159,by kernel_rfl⟩
theorem IE:aw prog 160 f160:=⟨func160,by kernel_rfl⟩
theorem ID:aw prog 161 f161:=⟨func161,by kernel_rfl⟩
theorem PG:aw prog 162 f162:=⟨func162,by kernel_rfl⟩
theorem PF:aw prog 163 f163:=⟨func163,by kernel_rfl⟩
theorem Ep:aw prog 164 f164:=⟨func164,by kernel_rfl⟩
theorem PE:aw prog 165 f165:=⟨func165,by kernel_rfl⟩
theorem ays:aw prog 166 f166:=⟨func166,by kernel_rfl⟩
theorem ayt:aw prog 167 f167:=⟨func167,by kernel_rfl⟩
theorem ayu:aw prog 168 f168:=⟨func168,by kernel_rfl⟩
theorem ayv:aw prog 169 f169:=⟨func169,by kernel_rfl⟩
theorem PD:aw prog 170 f170:=⟨func170,by kernel_rfl⟩
theorem PC:aw prog 171 f171:=⟨func171,by kernel_rfl⟩
theorem PB:aw prog 172 f172:=⟨func172,by kernel_rfl⟩
theorem PA:aw prog 173 f173:=⟨func173,by kernel_rfl⟩
theorem Pz:aw prog 174 f174:=⟨func174,by kernel_rfl⟩
theorem G3:aw prog 175 f175:=⟨func175,by kernel_rfl⟩
theorem G2:aw prog 176 f176:=⟨func176,by kernel_rfl⟩
theorem G1:aw prog 177 f177:=⟨func177,by kernel_rfl⟩
theorem G0:aw prog 178 f178:=⟨func178,by kernel_rfl⟩
theorem GZ:aw prog 179 f179:=⟨func179,by kernel_rfl⟩
theorem GY:aw prog 180 f180:=⟨func180,by kernel_rfl⟩
theorem GX:aw prog 181 f181:=⟨func181,by kernel_rfl⟩
theorem GW:aw prog 182 f182:=⟨func182,by kernel_rfl⟩
theorem GV:aw prog 183 f183:=⟨func183,by kernel_rfl⟩
theorem GU:aw prog 184 f184:=⟨func184,by kernel_rfl⟩
theorem GS:aw prog 185 f185:=⟨func185,by kernel_rfl⟩
theorem GR:aw prog 186 f186:=⟨func186,by kernel_rfl⟩
theorem GQ:aw prog 187 f187:=⟨func187,by kernel_rfl⟩
theorem Bx:aw prog 188 f188:=⟨func188,by kernel_rfl⟩
theorem GP:aw prog 189 f189:=⟨func189,by kernel_rfl⟩
theorem Py:aw prog 190 f190:=⟨func190,by kernel_rfl⟩
theorem GO:aw prog 191 f191:=⟨func191,by kernel_rfl⟩
theorem Px:aw prog 192 f192:=⟨func192,by kernel_rfl⟩
theorem GN:aw prog 193 f193:=⟨func193,by kernel_rfl⟩
theorem GM:aw prog 194 f194:=⟨func194,by kernel_rfl⟩
theorem GL:aw prog 195 f195:=⟨func195,by kernel_rfl⟩
theorem GK:aw prog 196 f196:=⟨func196,by kernel_rfl⟩
theorem Pw:aw prog 197 f197:=⟨func197,by kernel_rfl⟩
theorem Pv:aw prog 198 f198:=⟨func198,by kernel_rfl⟩
theorem IC:aw prog 199 f199:=⟨func199,by kernel_rfl⟩
theorem IB:aw prog 200 f200:=⟨func200,by kernel_rfl⟩
theorem IA:aw prog 201 f201:=⟨func201,by kernel_rfl⟩
theorem Iz:aw prog 202 f202:=⟨func202,by kernel_rfl⟩
theorem Iy:aw prog 203 f203:=⟨func203,by kernel_rfl⟩
theorem Ix:aw prog 204 f204:=⟨func204,by kernel_rfl⟩
theorem Iw:aw prog 205 f205:=⟨func205,by kernel_rfl⟩
theorem BQ:aw prog 206 f206:=⟨func206,by kernel_rfl⟩
theorem Iv:aw prog 207 f207:=⟨func207,by kernel_rfl⟩
theorem ayH:aw prog 208 f208:=⟨func208,by kernel_rfl⟩
theorem Gs:aw prog 209 f209:=⟨func209,by kernel_rfl⟩
theorem ayI:aw prog 210 f210:=⟨func210,by kernel_rfl⟩
theorem ayJ:aw prog 211 f211:=⟨func211,by kernel_rfl⟩
theorem ayK:aw prog 212 f212:=⟨func212,by kernel_rfl⟩
theorem ayT:aw prog 213 f213:=⟨func213,by kernel_rfl⟩
theorem ayU:aw prog 214 f214:=⟨func214,by kernel_rfl⟩
theorem ayV:aw prog 215 f215:=⟨func215,by kernel_rfl⟩
theorem ay5:aw prog 216 f216:=⟨func216,by kernel_rfl⟩
theorem azk:aw prog 217 f217:=⟨func217,by kernel_rfl⟩
theorem azl:aw prog 218 f218:=⟨func218,by kernel_rfl⟩
theorem azm:aw prog 219 f219:=⟨func219,by kernel_rfl⟩
theorem Iu:aw prog 220 f220:=⟨func220,by kernel_rfl⟩
theorem It:aw prog 221 f221:=⟨func221,by kernel_rfl⟩
theorem Is:aw prog 222 f222:=⟨func222,by kernel_rfl⟩
theorem Ir:aw prog 223 f223:=⟨func223,by kernel_rfl⟩
theorem Iq:aw prog 224 f224:=⟨func224,by kernel_rfl⟩
theorem Ip:aw prog 225 f225:=⟨func225,by kernel_rfl⟩
theorem azo:aw prog 226 f226:=⟨func226,by kernel_rfl⟩
theorem azp:aw prog 227 f227:=⟨func227,by kernel_rfl⟩
theorem azq:aw prog 228 f228:=⟨func228,by kernel_rfl⟩
theorem azr:aw prog 229 f229:=⟨func229,by kernel_rfl⟩
theorem Pu:aw prog 230 f230:=⟨func230,by kernel_rfl⟩
theorem azs:aw prog 231 f231:=⟨func231,by kernel_rfl⟩
theorem azt:aw prog 232 f232:=⟨func232,by kernel_rfl⟩
theorem azu:aw prog 233 f233:=⟨func233,by kernel_rfl⟩
theorem azv:aw prog 234 f234:=⟨func234,by kernel_rfl⟩
theorem azw:aw prog 235 f235:=⟨func235,by kernel_rfl⟩
theorem azx:aw prog 236 f236:=⟨func236,by kernel_rfl⟩
theorem azy:aw prog 237 f237:=⟨func237,by kernel_rfl⟩
theorem azz:aw prog 238 f238:=⟨func238,by kernel_rfl⟩
theorem OD:aw prog 239 f239:=⟨func239,by kernel_rfl⟩
theorem En:aw prog 240 f240:=⟨func240,by kernel_rfl⟩
theorem Gr:aw prog 241 f241:=⟨func241,by kernel_rfl⟩
theorem Io:aw prog 242 f242:=⟨func242,by kernel_rfl⟩
theorem Im:aw prog 243 f243:=⟨func243,by kernel_rfl⟩
theorem Il:aw prog 244 f244:=⟨func244,by kernel_rfl⟩
theorem AD:aw prog 245 f245:=⟨func245,by kernel_rfl⟩
theorem Mx:aw prog 246 f246:=⟨func246,by kernel_rfl⟩
theorem Em:aw prog 247 f247:=⟨func247,by kernel_rfl⟩
theorem NU:aw prog 248 f248:=⟨func248,by kernel_rfl⟩
theorem xo:aw prog 249 f249:=⟨func249,by kernel_rfl⟩
theorem OC:aw prog 250 f250:=⟨func250,by kernel_rfl⟩
theorem OB:aw prog 251 f251:=⟨func251,by kernel_rfl⟩
theorem HT:aw prog 252 f252:=⟨func252,by kernel_rfl⟩
theorem OA:aw prog 253 f253:=⟨func253,by kernel_rfl⟩
theorem Oz:aw prog 254 f254:=⟨func254,by kernel_rfl⟩
theorem azA:aw prog 255 f255:=⟨func255,by kernel_rfl⟩
theorem ON:aw prog 256 f256:=⟨func256,by kernel_rfl⟩
theorem OM:aw prog 257 f257:=⟨func257,by kernel_rfl⟩
theorem OL:aw prog 258 f258:=⟨func258,by kernel_rfl⟩
theorem OK:aw prog 259 f259:=⟨func259,by kernel_rfl⟩
theorem Gq:aw prog 260 f260:=⟨func260,by kernel_rfl⟩
theorem Ge:aw prog 261 f261:=⟨func261,by kernel_rfl⟩
theorem Gp:aw prog 262 f262:=⟨func262,by kernel_rfl⟩
theorem azB:aw prog 263 f263:=⟨func263,by kernel_rfl⟩
theorem azC:aw prog 264 f264:=⟨func264,by kernel_rfl⟩
theorem azD:aw prog 265 f265:=⟨func265,by kernel_rfl⟩
theorem azE:aw prog 266 f266:=⟨func266,by kernel_rfl⟩
theorem azF:aw prog 267 f267:=⟨func267,by kernel_rfl⟩
theorem azG:aw prog 268 f268:=⟨func268,by kernel_rfl⟩
theorem Gx:aw prog 269 f269:=⟨func269,by kernel_rfl⟩
theorem azH:aw prog 270 f270:=⟨func270,by kernel_rfl⟩
theorem NT:aw prog 271 f271:=⟨func271,by kernel_rfl⟩
theorem Gw:aw prog 272 f272:=⟨func272,by kernel_rfl⟩
theorem OJ:aw prog 273 f273:=⟨func273,by kernel_rfl⟩
theorem HR:aw prog 274 f274:=⟨func274,by kernel_rfl⟩
theorem azI:aw prog 275 f275:=⟨func275,by kernel_rfl⟩
theorem azJ:aw prog 276 f276:=⟨func276,by kernel_rfl⟩
theorem azK:aw prog 277 f277:=⟨func277,by kernel_rfl⟩
theorem Gv:aw prog 278 f278:=⟨func278,by kernel_rfl⟩
theorem azL:aw prog 280 f280:=⟨func280,by kernel_rfl⟩
theorem azM:aw prog 281 f281:=⟨func281,by kernel_rfl⟩
theorem azO:aw prog 282 f282:=⟨func282,by kernel_rfl⟩
theorem azP:aw prog 283 f283:=⟨func283,by kernel_rfl⟩
theorem azQ:aw prog 284 f284:=⟨func284,by kernel_rfl⟩
theorem azR:aw prog 285 f285:=⟨func285,by kernel_rfl⟩
theorem HQ:aw prog 286 f286:=⟨func286,by kernel_rfl⟩
theorem HP:aw prog 287 f287:=⟨func287,by kernel_rfl⟩
theorem HO:aw prog 288 f288:=⟨func288,by kernel_rfl⟩
theorem azS:aw prog 289 f289:=⟨func289,by kernel_rfl⟩
theorem HN:aw prog 291 f291:=⟨func291,by kernel_rfl⟩
theorem OI:aw prog 293 f293:=⟨func293,by kernel_rfl⟩
theorem OH:aw prog 294 f294:=⟨func294,by kernel_rfl⟩
theorem OG:aw prog 295 f295:=⟨func295,by kernel_rfl⟩
theorem azT:aw prog 296 f296:=⟨func296,by kernel_rfl⟩
theorem azU:aw prog 297 f297:=⟨func297,by kernel_rfl⟩
theorem azV:aw prog 298 f298:=⟨func298,by kernel_rfl⟩
theorem azX:aw prog 299 f299:=⟨func299,by kernel_rfl⟩
theorem azZ:aw prog 300 f300:=⟨func300,by kernel_rfl⟩
theorem az0:aw prog 301 f301:=⟨func301,by kernel_rfl⟩
theorem az1:aw prog 302 f302:=⟨func302,by kernel_rfl⟩
theorem az2:aw prog 303 f303:=⟨func303,by kernel_rfl⟩
theorem az3:aw prog 304 f304:=⟨func304,by kernel_rfl⟩
theorem az4:aw prog 305 f305:=⟨func305,by kernel_rfl⟩
theorem az5:aw prog 306 f306:=⟨func306,by kernel_rfl⟩
theorem az8:aw prog 307 f307:=⟨func307,by kernel_rfl⟩
theorem az9:aw prog 308 f308:=⟨func308,by kernel_rfl⟩
theorem aAc:aw prog 309 f309:=⟨func309,by kernel_rfl⟩
theorem aAd:aw prog 310 f310:=⟨func310,by kernel_rfl⟩
theorem aAe:aw prog 311 f311:=⟨func311,by kernel_rfl⟩
theorem aAf:aw prog 312 f312:=⟨func312,by kernel_rfl⟩
theorem aAg:aw prog 313 f313:=⟨func313,by kernel_rfl⟩
theorem aAh:aw prog 315 f315:=⟨func315,by kernel_rfl⟩
theorem OE:aw prog 316 f316:=⟨func316,by kernel_rfl⟩
theorem aAi:aw prog 317 f317:=⟨func317,by kernel_rfl⟩
theorem aAm:aw prog 318 f318:=⟨func318,by kernel_rfl⟩
theorem aAo:aw prog 319 f319:=⟨func319,by kernel_rfl⟩
theorem aAp:aw prog 320 f320:=⟨func320,by kernel_rfl⟩
theorem aAr:aw prog 321 f321:=⟨func321,by kernel_rfl⟩
theorem aAs:aw prog 322 f322:=⟨func322,by kernel_rfl⟩
theorem aAt:aw prog 323 f323:=⟨func323,by kernel_rfl⟩
theorem aAu:aw prog 324 f324:=⟨func324,by kernel_rfl⟩
theorem aAv:aw prog 325 f325:=⟨func325,by kernel_rfl⟩
theorem aAw:aw prog 326 f326:=⟨func326,by kernel_rfl⟩
theorem aAx:aw prog 327 f327:=⟨func327,by kernel_rfl⟩
theorem aAy:aw prog 328 f328:=⟨func328,by kernel_rfl⟩
theorem aAB:aw prog 329 f329:=⟨func329,by kernel_rfl⟩
theorem O4:aw prog 330 f330:=⟨func330,by kernel_rfl⟩
theorem aAC:aw prog 331 f331:=⟨func331,by kernel_rfl⟩
theorem O3:aw prog 332 f332:=⟨func332,by kernel_rfl⟩
theorem HM:aw prog 333 f333:=⟨func333,by kernel_rfl⟩
theorem aAD:aw prog 334 f334:=⟨func334,by kernel_rfl⟩
theorem aAE:aw prog 335 f335:=⟨func335,by kernel_rfl⟩
theorem O2:aw prog 336 f336:=⟨func336,by kernel_rfl⟩
theorem aAF:aw prog 337 f337:=⟨func337,by kernel_rfl⟩
theorem aAG:aw prog 338 f338:=⟨func338,by kernel_rfl⟩
theorem aAH:aw prog 339 f339:=⟨func339,by kernel_rfl⟩
theorem aAI:aw prog 340 f340:=⟨func340,by kernel_rfl⟩
theorem aAJ:aw prog 341 f341:=⟨func341,by kernel_rfl⟩
theorem aAO:aw prog 342 f342:=⟨func342,by kernel_rfl⟩
theorem aAV:aw prog 343 f343:=⟨func343,by kernel_rfl⟩
theorem aAW:aw prog 344 f344:=⟨func344,by kernel_rfl⟩
theorem aA1:aw prog 345 f345:=⟨func345,by kernel_rfl⟩
theorem aBg:aw prog 346 f346:=⟨func346,by kernel_rfl⟩
theorem aBh:aw prog 347 f347:=⟨func347,by kernel_rfl⟩
theorem HL:aw prog 348 f348:=⟨func348,by kernel_rfl⟩
theorem O1:aw prog 349 f349:=⟨func349,by kernel_rfl⟩
theorem aBz:aw prog 350 f350:=⟨func350,by kernel_rfl⟩
theorem aBF:aw prog 351 f351:=⟨func351,by kernel_rfl⟩
theorem aBL:aw prog 352 f352:=⟨func352,by kernel_rfl⟩
theorem aBP:aw prog 354 f354:=⟨func354,by kernel_rfl⟩
theorem aBT:aw prog 355 f355:=⟨func355,by kernel_rfl⟩
theorem aBV:aw prog 356 f356:=⟨func356,by kernel_rfl⟩
theorem aBX:aw prog 357 f357:=⟨func357,by kernel_rfl⟩
theorem aBY:aw prog 358 f358:=⟨func358,by kernel_rfl⟩
theorem aB7:aw prog 359 f359:=⟨func359,by kernel_rfl⟩
theorem aB9:aw prog 360 f360:=⟨func360,by kernel_rfl⟩
theorem aCa:aw prog 362 f362:=⟨func362,by kernel_rfl⟩
theorem aCk:aw prog 363 f363:=⟨func363,by kernel_rfl⟩
theorem aCl:aw prog 364 f364:=⟨func364,by kernel_rfl⟩
theorem aCn:aw prog 365 f365:=⟨func365,by kernel_rfl⟩
theorem aCp:aw prog 366 f366:=⟨func366,by kernel_rfl⟩
theorem aCq:aw prog 367 f367:=⟨func367,by kernel_rfl⟩
theorem aCr:aw prog 369 f369:=⟨func369,by kernel_rfl⟩
theorem aCs:aw prog 370 f370:=⟨func370,by kernel_rfl⟩
theorem aCu:aw prog 371 f371:=⟨func371,by kernel_rfl⟩
theorem O0:aw prog 372 f372:=⟨func372,by kernel_rfl⟩
theorem aCv:aw prog 373 f373:=⟨func373,by kernel_rfl⟩
theorem aCB:aw prog 374 f374:=⟨func374,by kernel_rfl⟩
theorem aCD:aw prog 376 f376:=⟨func376,by kernel_rfl⟩
theorem aCE:aw prog 377 f377:=⟨func377,by kernel_rfl⟩
theorem aCG:aw prog 378 f378:=⟨func378,by kernel_rfl⟩
theorem aCK:aw prog 379 f379:=⟨func379,by kernel_rfl⟩
theorem aCO:aw prog 380 f380:=⟨func380,by kernel_rfl⟩
theorem aCP:aw prog 381 f381:=⟨func381,by kernel_rfl⟩
theorem aCR:aw prog 382 f382:=⟨func382,by kernel_rfl⟩
theorem aCS:aw prog 383 f383:=⟨func383,by kernel_rfl⟩
theorem aCV:aw prog 384 f384:=⟨func384,by kernel_rfl⟩
theorem aCW:aw prog 385 f385:=⟨func385,by kernel_rfl⟩
theorem aCX:aw prog 386 f386:=⟨func386,by kernel_rfl⟩
theorem aC0:aw prog 387 f387:=⟨func387,by kernel_rfl⟩
theorem aC1:aw prog 388 f388:=⟨func388,by kernel_rfl⟩
theorem aC3:aw prog 419 f419:=⟨func419,by kernel_rfl⟩
set_option maxHeartbeats 4000000
set_option maxRecDepth 100000
def wB:Nat:=18446744073709551616
theorem rr(x y c:Nat)(hc:c<=1):aC prog 290 [.int .u64 x,.int .u64 y,.int .u64 c] (.aG [.int .u64 ((x+y+c)% wB:Nat),.int .u64 ((x+y+c)/wB:Nat)]):=by
 refine .inr fun w aa a h=>?_;simp only[bt,aD]at h;obtain⟨_,_,rfl,rfl,_,_,rfl,rfl,_,_,rfl,rfl,rfl⟩:=h;refine⟨.tuple #[.int .u64 ((x+y+c)% wB:Nat),.int .u64 ((x+y+c)/wB:Nat)],?_,?_⟩
 ·show(callFunc 290 #[.int .u64 x,.int .u64 y,.int .u64 c]).run prog w=_;rw[av func290 (by kernel_rfl) (by kernel_rfl) (by kernel_rfl) (e:=add64Entry) (by kernel_rfl),run_add64 x y c (by omega) (by omega) (by omega) (by omega)];simp only[Result.andThen,wB];congr 5<;>omega
 ·simp only[aD,bt];exact⟨[.int .u64 ((x+y+c)% wB:Nat),.int .u64 ((x+y+c)/wB:Nat)],⟨_,_,rfl,rfl,_,_,rfl,rfl,rfl⟩,rfl⟩
theorem ZF(x y c:Nat)(hc:c<=1):aC prog 292 [.int .u64 x,.int .u64 y,.int .u64 c] (.aG [.int .u64 ((x+wB-y-c)% wB:Nat),.int .u64 ((if x<y+c then 1 else 0:Nat):Int)]):=by
 refine .inr fun w aa a h=>?_;simp only[bt,aD]at h;obtain⟨_,_,rfl,rfl,_,_,rfl,rfl,_,_,rfl,rfl,rfl⟩:=h;refine⟨.tuple #[.int .u64 ((x+wB-y-c)% wB:Nat),.int .u64 ((if x<y+c then 1 else 0:Nat):Int)],?_,?_⟩
 ·show(callFunc 292 #[.int .u64 x,.int .u64 y,.int .u64 c]).run prog w=_;rw[av func292 (by kernel_rfl) (by kernel_rfl) (by kernel_rfl) (e:=sub64Entry) (by kernel_rfl),run_sub64 x y c hc];rfl
 ·simp only[aD,bt];exact⟨[.int .u64 ((x+wB-y-c)% wB:Nat),.int .u64 ((if x<y+c then 1 else 0:Nat):Int)],⟨_,_,rfl,rfl,_,_,rfl,rfl,rfl⟩,rfl⟩
def nu(B:Nat):Nat->Nat->List Nat
 |0,_=>[]
 |f+1,n=>if n=0 then[]else n% B::nu B f (n/B)
def az(B n:Nat):List Nat:=nu B (n+1) n
def iU(B:Nat):List Nat->Nat
 |[]=>0
 |d::l=>d+B*iU B l
def ae(B n i:Nat):Nat:=n/B^i% B
section
variable{B:Nat}
theorem JI(a:2<=B):∀(f g n:Nat),n<f->n<g->nu B f n=nu B g n
 |0,_,_,h,_=>by omega
 |_,0,_,_,h=>by omega
 |f+1,g+1,n,b,c=>by
  simp only[nu]
  split
  ·rfl
  ·rename_i d;have:n/B<n:=eo (by omega) (by omega);rw[JI a f g (n/B) (by omega) (by omega)]
theorem mL:az B 0=[]:=by simp[az,nu]
theorem uc(a:2<=B){n:Nat}(h:n≠0):az B n=n% B::az B (n/B):=by
 have:n/B<n:=eo (by omega) (by omega);rw[az,nu,if_neg h,az,JI a n (n/B+1) (n/B) this (by omega)]
theorem Lx(a:2<=B)(n:Nat):iU B (az B n)=n:=by
 induction n using gi with
 |ind n b=>
  by_cases h:n=0
  ·subst h;simp[mL,iU]
  ·rw[uc a h,iU,b _ (eo (by omega) (by omega))];exact c6 n B
theorem ai0(a:2<=B):∀(i n:Nat),(az B n)[i]?.getD 0=ae B n i
 |i,n=>by
  induction i generalizing n with
  |zero=>
   by_cases h:n=0
   ·subst h;simp[mL,ae]
   ·rw[uc a h];simp[ae]
  |succ i b=>
   by_cases h:n=0
   ·subst h;simp[mL,ae]
   ·rw[uc a h,List.getElem?_cons_succ,b];simp only[ae,ck,cx];rw[cc B]
theorem eH(a:2<=B){n i:Nat}(h:i<(az B n).length):(az B n)[i]=ae B n i:=by
 have:=ai0 a i n;rw[List.getElem?_eq_getElem h]at this;exact this
theorem cm(b:2<=B)(n:Nat):n<B^(az B n).length:=by
 induction n using gi with
 |ind n c=>
  by_cases h:n=0
  ·subst h;simp[mL]
  ·rw[uc b h,b1,cx];have:=c _ (eo (n:=n) (k:=B) (by omega) (by omega));have d:=c6 n B;have e:=da n (show 0<B by omega);have a:(n/B+1)*B<=B^(az B (n/B)).length*B:=cA B this;rw[dl,cc (n/B) B]at a;omega
theorem dT(b:2<=B):∀(k n:Nat),n<B^k->(az B n).length<=k
 |0,n,h=>by
  have:n=0:=by simpa using h
  subst this;simp[mL]
 |k+1,n,h=>by
  by_cases a:n=0
  ·subst a;simp[mL]
  ·rw[uc b a,b1];have:=dT b k (n/B) (by
    rw[ce (by omega),<-cx];exact h)
   omega
theorem Ki(a:2<=B){k n:Nat}(h:B^k<=n):k<(az B n).length:=by
 have:=cm a n;exact(Nat.pow_lt_pow_iff_right (by omega:1<B)).1 (dq h this)
def eC:List Nat->List Nat
 |[]=>[]
 |d::l=>match eC l with
  |[]=>if d=0 then[]else[d]
  |t=>d::t
theorem Du(a:2<=B):∀{l:List Nat},(∀d∈l,d<B)->az B (iU B l)=eC l
 |[],_=>by simp[iU,mL,eC]
 |d::l,h=>by
  have c:=Du a (l:=l) fun x hx=>h x (List.mem_cons_of_mem _ hx);have f:=h d List.mem_cons_self;simp only[eC,iU]
  by_cases b:d+B*iU B l=0
  ·have k:d=0:=by omega
   have m:iU B l=0:=by
    rcases Nat.mul_eq_zero.1 (show B*iU B l=0 by omega)with e|e
    ·omega
    ·exact e
   rw[b,mL,<-c,m,mL];simp[k]
  ·rw[uc a b];have e1:(d+B*iU B l)% B=d:=by rw[ei,cv f]
   have e2:(d+B*iU B l)/B=iU B l:=by
    rw[cC _ _ (by omega),cB f,gm]
   rw[e1,e2,c]
   split
   ·rename_i g;have i:=c;rw[g,j a]at i;rw[if_neg (by rw[i]at b;simpa using b),g]
   ·rfl
where j (a:2<=B) {n:Nat}:(az B n=[])=(n=0):=by
        apply propext;constructor
        ·intro h;rw[<-Lx a n,h];rfl
        ·rintro rfl;exact mL
def row(B m n:Nat):List Nat:=(a2 m).map (ae B n)
theorem Nn{m n:Nat}:(row B m n).length=m:=by simp[row]
theorem Yi(m n:Nat):row B (m+1) n=n% B::row B m (n/B):=by
 rw[row,List.range_succ_eq_map,be,bi];congr 1
 ·simp[ae]
 ·rw[row];apply bk;intro i _;simp only[Function.comp,ae,ck,cx];rw[cc]
theorem Nl(a:2<=B):∀(m n:Nat),iU B (row B m n)=n% B^m
 |0,n=>by simp[row,iU,em]
 |m+1,n=>by
  rw[Yi,iU,Nl a m,cx,cc (B^m),fd]
theorem jy(a:2<=B){m n:Nat}(h:n<B^m):eC (row B m n)=az B n:=by
 rw[<-Du a (l:=row B m n),Nl a,cv h];intro d b;simp only[row,bb]at b;obtain⟨i,_,rfl⟩:=b;exact da _ (by omega)
theorem aja(b:2<=B)(n:Nat):az B n=row B (az B n).length n:=by
 apply a6 (by simp[row]);intro i a c;rw[eH b a];simp[row]
end
section
variable{B:Nat}
theorem mod_pow_succ(n i:Nat):n% B^(i+1)=n% B^i+B^i*ae B n i:=by
 rw[cx,fd,ae]
def di(B a b i:Nat):Nat:=(a% B^i+b% B^i)/B^i
theorem yE(a b:Nat):di B a b 0=0:=by simp[di,em]
theorem lZ(f:2<=B)(a b i:Nat):di B a b i<=1:=by
 have c:0<B^i:=cy (by omega);have d:=da a c;have e:=da b c;rw[di];have:(a% B^i+b% B^i)/B^i<2:=by rw[ce c];omega
 omega
theorem qO(e:2<=B)(a b i:Nat):(ae B a i+ae B b i+di B a b i)% B=ae B (a+b) i/\(ae B a i+ae B b i+di B a b i)/B=di B a b (i+1):=by
 have c:0<B^i:=cy (by omega);constructor
 ·have d:(a+b)/B^i=di B a b i+(a/B^i+b/B^i):=by
   rw[di]
   conv=>lhs;rw[<-c6 a (B^i),<-c6 b (B^i)]
   rw[show a% B^i+B^i*(a/B^i)+(b% B^i+B^i*(b/B^i))=(a% B^i+b% B^i)+B^i*(a/B^i+b/B^i)by rw[dk];omega];rw[cC _ _ c]
  rw[ae,ae,ae,d,e9,<-e9 (a/B^i),<-e9,en]
 ·conv=>rhs;rw[di,mod_pow_succ,mod_pow_succ,cx,<-ck]
  rw[show a% B^i+B^i*ae B a i+(b% B^i+B^i*ae B b i)=(a% B^i+b% B^i)+B^i*(ae B a i+ae B b i)by rw[dk];omega];rw[cC _ _ c,di,en ((a% B^i+b% B^i)/B^i)]
theorem jw{n i:Nat}(h:n<B^i):ae B n i=0:=by
 rw[ae,cB h,Nat.zero_mod]
theorem ct(a:2<=B)(n i:Nat):ae B n i<B:=da _ (by omega)
def fu(B a b i:Nat):Nat:=if a% B^i<b% B^i then 1 else 0
theorem B7(a b:Nat):fu B a b 0=0:=by simp[fu,em]
theorem LF(d:2<=B){a b:Nat}(k:b<=a)(i:Nat):
 (ae B a i<ae B b i+fu B a b i/\fu B a b (i+1)=1/\ae B a i+B=ae B (a-b) i+(ae B b i+fu B a b i))\/
 (ae B b i+fu B a b i<=ae B a i/\fu B a b (i+1)=0/\ae B a i=ae B (a-b) i+(ae B b i+fu B a b i)):=by
 have g:0<B^i:=cy (by omega);obtain⟨c,rfl⟩:=Nat.le.dest k;have j:=qO d b c i;rw[show b+c-b=c by omega];have hc:∀i,fu B (b+c) b i=di B b c i:=by
  intro i;have g:0<B^i:=cy (by omega);have l:=da b g;have m:=da c g;rw[fu,di,e9]
  by_cases h:b% B^i+c% B^i<B^i
  ·rw[cv h,cB h,if_neg (Nat.not_lt.2 (Nat.le_add_right _ _))]
  ·have e1:(b% B^i+c% B^i)/B^i=1:=by
    rw[show b% B^i+c% B^i=(b% B^i+c% B^i-B^i)+B^i*1 by omega,cC _ _ g,cB (by omega)]
   have e2:(b% B^i+c% B^i)% B^i=b% B^i+c% B^i-B^i:=by
    rw[Nat.mod_eq_sub_mod (by omega),cv (by omega)]
   rw[e1,e2,if_pos (by omega)]
 rw[hc,hc];have n:=ct d b i;have o:=ct d c i;have p:=lZ d b c i;have f:=c6 (ae B b i+ae B c i+di B b c i) B;rw[j.1,j.2]at f;have q:=lZ d b c (i+1);have r:=ct d (b+c) i;rcases(show di B b c (i+1)=0\/di B b c (i+1)=1 by omega)with e|e
 ·right;rw[e]at f⊢;simp at f;exact⟨by omega,rfl,by omega⟩
 ·left;rw[e]at f⊢;simp at f;exact⟨by omega,rfl,by omega⟩
def iT(B a b i j:Nat):Nat:=(a% B^i)*b+ae B a i*(b% B^j)*B^i
def dj(B a b i j k:Nat):Nat:=if k<i+j then ae B (iT B a b i j) k else ae B ((a% B^i)*b) k
def mulC(B a b i j:Nat):Nat:=iT B a b i j/B^(i+j)-(a% B^i)*b/B^(i+j)
theorem aGG(a b i j:Nat):(a% B^i)*b<=iT B a b i j:=by rw[iT];omega
theorem KA(a b i:Nat):iT B a b i 0=(a% B^i)*b:=by simp[iT,em]
theorem Cp(a b i:Nat):mulC B a b i 0=0:=by simp[mulC,KA]
theorem KC(a b i j:Nat):iT B a b i (j+1)=iT B a b i j+ae B a i*ae B b j*B^(i+j):=by
 rw[iT,iT,mod_pow_succ,dk,dl,ej];have:ae B a i*(B^j*ae B b j)*B^i=ae B a i*ae B b j*(B^i*B^j):=by
  rw[cc (B^j),<-cN,cN,cc (B^j)]
 omega
theorem Ml(a b i:Nat){n:Nat}(h:b<B^n):iT B a b i n=(a% B^(i+1))*b:=by
 rw[iT,cv h,mod_pow_succ,dl];congr 1;rw[fv,cc (ae B a i)]
theorem yp(n k:Nat):n/B^(k+1)=n/B^k/B:=by rw[cx,ck]
theorem C4(g:2<=B)(a b i j:Nat):
 (ae B a i*ae B b j+dj B a b i j (i+j)+mulC B a b i j)% B=ae B (iT B a b i (j+1)) (i+j)/\
 (ae B a i*ae B b j+dj B a b i j (i+j)+mulC B a b i j)/B=mulC B a b i (j+1):=by
 have f:0<B^(i+j):=cy (by omega);have d:iT B a b i (j+1)/B^(i+j)=iT B a b i j/B^(i+j)+ae B a i*ae B b j:=by
  rw[KC,dz _ _ f]
 have h:(a% B^i)*b/B^(i+j)<=iT B a b i j/B^(i+j):=ew (aGG a b i j);have c:dj B a b i j (i+j)=(a% B^i)*b/B^(i+j)% B:=by rw[dj,if_neg (by omega),ae]
 have e:ae B a i*ae B b j+dj B a b i j (i+j)+mulC B a b i j+B*((a% B^i)*b/B^(i+j)/B)=iT B a b i (j+1)/B^(i+j):=by
  rw[d,c,mulC];have:=c6 ((a% B^i)*b/B^(i+j)) B;omega
 constructor
 ·conv=>rhs;rw[ae,<-e]
  rw[ei]
 ·conv=>rhs;rw[mulC,show i+(j+1)=i+j+1 from rfl,yp,yp,<-e,cC _ _ (by omega)]
  rw[gb]
theorem KD(f:2<=B){a b i j k:Nat}(hk:k≠i+j):dj B a b i (j+1) k=dj B a b i j k:=by
 rw[dj,dj]
 by_cases h:k<i+j
 ·rw[if_pos (by omega),if_pos h,KC];have e:0<B^k:=cy (by omega);obtain⟨d,c⟩:∃d,i+j=k+1+d:=⟨i+j-(k+1),by
   have:k+1<=i+j:=h;rw[Nat.add_sub_cancel' this]⟩
  rw[c,ej,cx];generalize ae B a i*ae B b j=x;rw[ae,ae,show x*(B^k*B*B^d)=x*B^d*B*B^k by simp only[cN,cc,gc]];rw[dz _ _ e,ee]
 ·rw[if_neg (by omega),if_neg h]
theorem Mm(a b i j:Nat):dj B a b i (j+1) (i+j)=ae B (iT B a b i (j+1)) (i+j):=by
 rw[dj,if_pos (by omega)]
theorem wz(d:2<=B)(a:Nat){b n:Nat}(i:Nat)(h:b<B^n):(a% B^i)*b<B^(i+n):=by
 have c:0<B^i:=cy (by omega);rw[ej];exact ea (da _ c) h
theorem Jq(c:2<=B){a b i n:Nat}(h:b<B^n):mulC B a b i n=ae B ((a% B^(i+1))*b) (i+n):=by
 have h1:=wz c a i h;have d:=wz c a (i+1) h;rw[mulC,Ml a b i h,cB h1,Nat.sub_zero];refine(cv ?_).symm;rw[ce (cy (by omega)),cc B,<-cx,show(i+n).succ=i+1+n by omega];exact d
theorem pD(a b i k:Nat):dj B a b i 0 k=ae B ((a% B^i)*b) k:=by
 rw[dj,KA];split<;>rfl
theorem Mn(c:2<=B){a b i n k:Nat}(h:b<B^n)(hk:k≠i+n):dj B a b i n k=ae B ((a% B^(i+1))*b) k:=by
 rw[dj]
 split
 ·rw[Ml a b i h]
 ·rename_i h1;have e1:(a% B^i)*b<B^k:=dp (wz c a i h) (eb (by omega) (by omega));have e2:(a% B^(i+1))*b<B^k:=dp (wz c a (i+1) h) (eb (by omega) (by omega));rw[jw e1,jw e2]
theorem ua(d:2<=B)(a b i:Nat):∀j,mulC B a b i j<B
 |0=>by rw[Cp];omega
 |j+1=>by
  have h:=(C4 d a b i j).2;have f:=ua d a b i j;have g:dj B a b i j (i+j)<B:=by rw[dj];split<;>exact ct d _ _
  have e:ae B a i*ae B b j<=(B-1)*(B-1):=gl (by have:=ct d a i;omega) (by have:=ct d b j;omega);rw[<-h,ce (by omega)];obtain⟨c,rfl⟩:∃c,B=c+1:=⟨B-1,by omega⟩
  simp only[gb]at e;rw[dl,dk];omega
end
section
variable{B:Nat}
theorem Ke{V W d:Nat}(a:0<V/d):W/V<=W/d/(V/d):=by
 have e:0<d:=by
  rcases ed d with h|h
  ·subst h;simp at a
  ·exact h
 have f:0<V:=by
  rcases ed V with h|h
  ·subst h;simp at a
  ·exact h
 rw[db a,db e];have b:W/V*V<=W:=ec W V;have c:V/d*d<=V:=ec V d
 calc W/V*(V/d)*d=W/V*(V/d*d):=cN _ _ _
  _<=W/V*V:=dg _ c
  _<=W:=b
theorem Xj{V W d q:Nat}(f:0<d)(e:0<V)(h:W/d<q*(V/d)):W/V<q:=by
 rw[ce e];have b:W<(W/d+1)*d:=by
  have:=fN (a:=W) f;rw[dl];omega
 have c:V/d*d<=V:=ec V d
 calc W<(W/d+1)*d:=b
  _<=q*(V/d)*d:=cA _ h
  _=q*(V/d*d):=cN _ _ _
  _<=q*V:=dg _ c
theorem VU{V W d q:Nat}(c:0<d)(i:q*d<=V)(b:0<V)(h:q*(V/d)<=W/d):q<=W/V+1:=by
 rcases ed q with hq|hq
 ·subst hq;exact Nat.zero_le _
 have:q-1<=W/V:=by
  rw[db b,Nat.sub_mul,e7];have a:V<=V/d*d+d:=Nat.le_of_lt (fN c);have e:W/d*d<=W:=ec W d;have f:q*V<=q*(V/d)*d+q*d:=by
   calc q*V<=q*(V/d*d+d):=dg _ a
    _=q*(V/d)*d+q*d:=by rw[dk,cN]
  have g:q*(V/d)*d<=W/d*d:=cA _ h;omega
 omega
theorem CS{q b c T a r:Nat}(d:q*b+r=T):q*(b*B+c)<=T*B+a↔q*c<=r*B+a:=by
 subst d;rw[dk,dl,cN];omega
theorem tt(n k:Nat):n/B^k=n/B^(k+1)*B+ae B n k:=by
 rw[yp,ae,cc];exact(c9 _ _).symm
theorem q9(n j i:Nat):ae B (n/B^j) i=ae B n (j+i):=by
 rw[ae,ae,ck,ej]
theorem Dw{n m i:Nat}(h:i<m):ae B (n% B^m) i=ae B n i:=by
 obtain⟨d,rfl⟩:∃d,m=i+(d+1):=⟨m-i-1,by omega⟩
 rw[ae,ae,ej,Nat.mod_mul_right_div_self,cx,cc (B^d),eq]
theorem yy{n c m i:Nat}(h:i<m):ae B (n+c*B^m) i=ae B n i:=by
 rw[<-Dw (n:=n+c*B^m) h,ee,Dw h]
def RJ(B W V q n:Nat):Nat:=W+B^(n+1)-q*V
theorem aJu{W V q n:Nat}(h:q*V<=W){i:Nat}(hi:i<n+1):ae B (RJ B W V q n) i=ae B (W-q*V) i:=by
 rw[RJ,show W+B^(n+1)-q*V=(W-q*V)+1*B^(n+1)by omega,yy hi]
theorem KF(b:2<=B){R d j:Nat}(k:Nat):ae B (R% B^j+d*B^j) k=if k<j then ae B R k else ae B d (k-j):=by
 have a:0<B^j:=cy (by omega)
 split
 ·rename_i h;rw[yy h,Dw h]
 ·rename_i h;obtain⟨e,rfl⟩:∃e,k=j+e:=⟨k-j,by omega⟩
  rw[<-q9,dz _ _ a,cB (da _ a),gm,Nat.add_sub_cancel_left]
theorem yK{R V j:Nat}:R% (V*B^j)=R% B^j+(R/B^j% V)*B^j/\R/(V*B^j)=R/B^j/V:=by
 constructor
 ·rw[cc V,fd,cc (B^j)]
 ·rw[cc V,ck]
end
section
variable{c v1 v0 T u1 q r:Nat}
def hq(c b a T u1:Nat):Nat:=(T*c+u1)/(b*c+a)
theorem Qm(a:T<v1*c+v0)(b:u1<c):hq c v1 v0 T u1<c:=by
 rw[hq,ce (by omega)]
 calc T*c+u1<T*c+c:=by omega
  _=(T+1)*c:=by rw[dl,e7]
  _<=(v1*c+v0)*c:=cA _ a
  _=c*(v1*c+v0):=cc _ _
theorem NX(e:0<v1)(g:v0<c)(f:u1<c):hq c v1 v0 T u1<=T/v1:=by
 have hc:0<c:=by omega
 have a:(v1*c+v0)/c=v1:=by rw[cc,gj hc,cB g,gx]
 have b:(T*c+u1)/c=T:=by rw[cc,gj hc,cB f,gx]
 have h:=Ke (V:=v1*c+v0) (W:=T*c+u1) (d:=c) (by rw[a];exact e)
 rwa [a,b]at h
theorem Dq(a:0<v1)(hc:0<c)(d:q*v1+r=T)(f:hq c v1 v0 T u1<=q)(e:q*v0<=c*r+u1):q=hq c v1 v0 T u1:=by
 have b:0<v1*c+v0:=by have:=e8 a hc;omega
 have h:q*(v1*c+v0)<=T*c+u1:=(CS d).2 (by rw[cc r];exact e);have:q<=hq c v1 v0 T u1:=by rw[hq,db b];exact h
 omega
theorem Pj(b:0<v1)(hc:0<c)(f:q*v1+r=T)(i:hq c v1 v0 T u1<=q)(a:c<=q/\hq c v1 v0 T u1<c\/c*r+u1<q*v0):hq c v1 v0 T u1<=q-1:=by
 rcases a with⟨a,g⟩|a
 ·omega
 ·have d:0<v1*c+v0:=by have:=e8 b hc;omega
  have h:¬q*(v1*c+v0)<=T*c+u1:=fun e=>by
   have:=(CS f).1 e;rw[cc r]at this;omega
  have:hq c v1 v0 T u1<q:=by rw[hq,ce d];omega
  omega
theorem XO(a:T<v1*c+v0)(e:v0<c)(b:q*v1+r=T)(d:c<=r):q<c:=by
 rcases e6 q c with h|h
 ·exact h
 ·have:c*v1<=q*v1:=cA _ h;rw[cc c]at this;omega
theorem MC(b:0<v1)(d:T<v1*c+v0)(g:v0<c)(a:q*v1+r=T)(f:c<=r)(e:hq c v1 v0 T u1<=q):q=hq c v1 v0 T u1:=by
 have j:=XO d g a f;refine Dq b (by omega) a e ?_;have h:q*v0<=c*v0:=cA _ (by omega);have i:c*v0<=c*r:=dg _ (by omega);omega
theorem Ql(a:0<v1)(b:T<v1*c+v0)(d:c<=2*v1)(e:v0<c):T/v1<=c+1:=by
 have:T/v1<c+2:=by
  rw[ce a,dl,cc c];omega
 omega
theorem NW:T*c+u1-hq c v1 v0 T u1*(v1*c+v0)=(T*c+u1)% (v1*c+v0):=by
 rw[hq];generalize T*c+u1=A;generalize v1*c+v0=V;have:=c9 A V;rw[cc (A/V)];omega
theorem awu{Y U c:Nat}(hY:0<Y):U/Y=U/c/Y*c+((U/c% Y)*c+U% c)/Y/\U% Y=((U/c% Y)*c+U% c)% Y:=by
 have e:U=(U/c% Y*c+U% c)+(U/c/Y*c)*Y:=by
  have a:=c9 U c;have b:=c9 (U/c) Y;have d:(Y*(U/c/Y)+U/c% Y)*c=U/c*c:=by rw[b]
  rw[dl,cc Y,fv]at d;rw[cc c]at a;omega
 constructor
 ·conv=>lhs;rw[e]
  rw[dz _ _ hY,en]
 ·conv=>lhs;rw[e]
  rw[ee]
end
section
variable{B W V n q r:Nat}
theorem aKb(b:2<=B)(c:2<=n)(a:V<B^n):V/B^(n-2)=ae B V (n-1)*B+ae B V (n-2):=by
 obtain⟨k,rfl⟩:∃k,n=k+2:=⟨n-2,by omega⟩
 have e1:k+2-2=k:=by omega
 have e2:k+2-1=k+1:=by omega
 rw[e1,e2,tt];have:V/B^(k+1)=ae B V (k+1):=by
  rw[ae,cv];rw[ce (cy (by omega)),cc,<-cx];exact a
 rw[this]
theorem aJ8(c:2<=B)(d:2<=n)(a:B^(n-1)<=V)(b:V<B^n):V/B^(n-1)=ae B V (n-1)/\0<ae B V (n-1):=by
 obtain⟨k,rfl⟩:∃k,n=k+1:=⟨n-1,by omega⟩
 have e2:k+1-1=k:=by omega
 rw[e2]at*;have:V/B^k=ae B V k:=by
  rw[ae,cv];rw[ce (cy (by omega)),cc,<-cx];exact b
 exact⟨this,by rw[<-this];exact Nat.div_pos a (cy (by omega))⟩
theorem CR(b:2<=B)(c:2<=n)(a:B^(n-1)<=V):0<V:=dp (cy (by omega)) a
theorem N1(c:2<=B)(f:2<=n)(d:B^(n-1)<=V)(e:V<B^n):W/V<=W/B^(n-1)/ae B V (n-1):=by
 obtain⟨a,b⟩:=aJ8 c f d e;rw[<-a];exact Ke (by rw[a];exact b)
theorem Pk(a:2<=B)(c:2<=n)(b:V<B^n)(d:q*ae B V (n-1)+r=W/B^(n-1)):
 q*(V/B^(n-2))<=W/B^(n-2)↔q*ae B V (n-2)<=r*B+ae B W (n-2):=by
 rw[aKb a c b,tt,show n-2+1=n-1 by omega];exact CS d
theorem EI(b:2<=B)(c:2<=n)(a:B^(n-1)<=V)(d:V<B^n)(g:q*ae B V (n-1)+r=W/B^(n-1))(hq:q<B)(h:q*ae B V (n-2)<=r*B+ae B W (n-2)):q<=W/V+1:=by
 have f:0<B^(n-2):=cy (by omega);refine VU f ?_ (CR b c a) ((Pk b c d g).2 h);have e:n-1=n-2+1:=by omega
 rw[e,cx,cc]at a;exact Nat.le_trans (cA _ (by omega)) a
theorem Pm(a:2<=B)(b:2<=n)(c:B^(n-1)<=V)(d:V<B^n)(f:q*ae B V (n-1)+r=W/B^(n-1))(g:r*B+ae B W (n-2)<q*ae B V (n-2)):W/V<q:=by
 have e:0<B^(n-2):=cy (by omega);refine Xj e (CR a b c) ?_;rcases e6 (W/B^(n-2)) (q*(V/B^(n-2)))with h|h
 ·exact h
 ·have:=(Pk a b d f).1 h;omega
theorem NZ(a:2<=B)(b:B<=r)(hq:q<B):q*ae B V (n-2)<=r*B+ae B W (n-2):=by
 have e:ae B V (n-2)<B:=ct a _ _;have c:q*ae B V (n-2)<=B*B:=gl (by omega) (by omega);have d:B*B<=r*B:=cA _ b;omega
theorem Dr(e:2<=B)(f:1<=n)(c:V<B^n)(a:W<V*B):W/B^n<=ae B V (n-1)/\W/V<B:=by
 obtain⟨k,rfl⟩:∃k,n=k+1:=⟨n-1,by omega⟩
 have e2:k+1-1=k:=by omega
 rw[e2];have hk:0<B^k:=cy (by omega);have b:V/B^k=ae B V k:=by
  rw[ae,cv];rw[ce hk,cc,<-cx];exact c
 refine⟨?_,?_⟩
 ·rw[<-b,cx,cc,<-ck];refine ew ?_;have:W/B<V:=by rw[ce (by omega)];exact a
  omega
 ·have d:0<V:=by
   rcases ed V with h|h
   ·subst h;simp at a
   ·exact h
  rw[ce d,cc];exact a
def iJ(B V q i:Nat):Nat:=q*(V% B^i)/B^i
theorem WV:iJ B V q 0=0:=by simp[iJ,em]
theorem Yj(b:2<=B)(i:Nat):(q*ae B V i+iJ B V q i)% B=ae B (q*V) i/\(q*ae B V i+iJ B V q i)/B=iJ B V q (i+1):=by
 have a:0<B^i:=cy (by omega);have e:q*(V% B^(i+1))/B^i=q*ae B V i+iJ B V q i:=by
  rw[mod_pow_succ,dk,gc,cC _ _ a,iJ,en]
 rw[<-e];constructor
 ·have e2:q*V=q*(V% B^(i+1))+q*(V/B^(i+1))*B^(i+1):=by
   have:=c6 V (B^(i+1))
   conv=>lhs;rw[<-this]
   rw[dk,cc (B^(i+1)),cN]
  conv=>rhs;rw[e2,yy (by omega)]
  rfl
 ·rw[iJ,yp]
theorem aJC(b:2<=B)(hq:q<B)(i:Nat):iJ B V q i<B:=by
 have a:0<B^i:=cy (by omega);rw[iJ,ce a];exact ea hq (da _ a)
theorem Yl(c:2<=B)(hq:q<B)(a:V<B^n):iJ B V q n=ae B (q*V) n:=by
 have b:0<B^n:=cy (by omega);rw[iJ,cv a,ae];refine(cv ?_).symm;rw[ce b];exact ea hq a
theorem VF(hq:q<B)(a:V<B^n):q*V<B^(n+1):=by
 rw[cx,cc (B^n)];exact ea hq a
theorem wo{m i:Nat}(hi:i<m):ae B (W+B^m) i=ae B W i:=by
 have:=yy (B:=B) (n:=W) (c:=1) hi
 rwa [e7]at this
theorem Vk(b:W<B^(n+1))(a:q*V<B^(n+1)):fu B (W+B^(n+1)) (q*V) (n+1)=if W<q*V then 1 else 0:=by
 rw[fu,ge,cv b,cv a]
theorem aJv(h:q*V<=W)(b:q<=W/V+1)(a:0<V)(c:W/V<=q):q=W/V/\W-q*V=W% V:=by
 have e:q=W/V:=by
  have:=(db a).2 h;omega
 refine⟨e,?_⟩;have:=c9 W V;rw[e,cc];omega
theorem Yp(h:W<q*V)(b:q<=W/V+1)(a:0<V)(c:W/V<=q):q=W/V+1/\∀M,q*V<=W+M->W+M-q*V+V=W% V+M:=by
 have e:q=W/V+1:=by
  have:¬q<=W/V:=fun e=>by
   have:=(db a).1 e;omega
  omega
 refine⟨e,fun M d=>?_⟩;have:=c9 W V;have e2:q*V=V*(W/V)+V:=by rw[e,dl,e7,cc]
 omega
end
section
variable{S T:Nat}
theorem Jc{x0 x1:Nat}(h:x0<S)(c:0<T):(x0+S*x1)% (S*T)=x0+S*(x1% T):=by
 have d:0<S:=by omega
 have e:x1=x1% T+T*(x1/T):=(c6 x1 T).symm
 conv=>lhs;rw[e,dk,<-cN,<-Nat.add_assoc,ei]
 refine cv ?_;have a:x1% T+1<=T:=da _ c;have b:S*(x1% T+1)<=S*T:=dg _ a;rw[dk,Nat.mul_one]at b;omega
theorem Xr(w:Nat):ae (S*T) (w*S) 0=(ae (S*T) w 0*S)% (S*T):=by
 simp only[ae,gt,fm];rw[Nat.mod_mul_mod]
theorem Xs(b:0<S)(a:0<T)(w i:Nat):ae (S*T) (w*S) (i+1)=(ae (S*T) w (i+1)*S)% (S*T)+ae (S*T) w i/T:=by
 have d:0<S*T:=e8 b a;have e0:w*S/(S*T)^(i+1)=w/(S*T)^i/T:=by
  rw[cx,cc S T,<-cN,Nat.mul_div_mul_right _ _ b,ck]
 have e1:w/(S*T)^(i+1)=w/(S*T)^i/(S*T):=by rw[cx,ck]
 simp only[ae];rw[e0,e1];generalize w/(S*T)^i=x;have e2:x/T=x% (S*T)/T+S*(x/(S*T)):=by
  conv=>lhs;rw[<-c6 x (S*T)]
  rw[show S*T*(x/(S*T))=T*(S*(x/(S*T)))by rw[cc S T,cN],cC _ _ a]
 have c:x% (S*T)/T<S:=by rw[ce a];exact da _ d
 rw[e2,Jc c a];have e3:x/(S*T)% (S*T)*S% (S*T)=S*(x/(S*T)% T):=by
  rw[cc _ S,fb,cc S T,eq]
 rw[e3,en]
theorem aJK(a:0<S)(e:0<T)(R i:Nat):ae (S*T) (R/S) i=ae (S*T) R i/S+(ae (S*T) R (i+1)*T)% (S*T):=by
 have d:0<S*T:=e8 a e;have e0:R/S/(S*T)^i=R/(S*T)^i/S:=by rw[ck,cc,ck]
 have e1:R/(S*T)^(i+1)=R/(S*T)^i/(S*T):=by rw[cx,ck]
 simp only[ae];rw[e0,e1];generalize R/(S*T)^i=x;have e2:x/S=x% (S*T)/S+T*(x/(S*T)):=by
  conv=>lhs;rw[<-c6 x (S*T)]
  rw[cN,cC _ _ a]
 have c:x% (S*T)/S<T:=by rw[ce a,cc T];exact da _ d
 have b:=Jc (S:=T) (T:=S) (x0:=x% (S*T)/S) (x1:=x/(S*T)) c a;rw[cc T S]at b;rw[e2,b];have e3:x/(S*T)% (S*T)*T% (S*T)=T*(x/(S*T)% S):=by
  rw[cc _ T,cc S T,fb,cc T S,eq]
 rw[e3]
end
theorem DY{a b s:Nat}(c:b<2^s):a*2^s|||b=a*2^s+b:=by
 have:=Nat.shiftLeft_add_eq_or_of_lt c a;rw[Nat.shiftLeft_eq]at this;exact this.symm
def eW(l:List Nat):List PV:=l.map fun x:Nat=>.int .u64 x
theorem RU(w:List Nat):fg prog 1 (w.map (AV.p∘fun x:Nat=>PV.int .u64 x)):=by
 rw[vO];intro v a;obtain⟨x,_,rfl⟩:=bb.1 a;simp[ad,aL,bI]
theorem B8:∀l:List Nat,eC (l++[0])=eC l
 |[]=>by simp[eC]
 |d::l=>by rw[b4,eC,B8 l,eC]
theorem vK:∀(l:List Nat)(d:Nat),d≠0->eC (l++[d])=l++[d]
 |[],d,h=>by simp[eC,h]
 |x::l,d,h=>by
  rw[b4,eC,vK l d h]
  split
  ·rename_i e;simp at e
  ·rfl
theorem ue(w:List Nat)(h:w.length<=1048576):aC prog 291 [.seq (eW w)] (.seq (eW (eC w))):=by
 refine aM nf HN mix (by simp[f291]) ?_;simp only[eW];simp[f291];refine lp (α:=Nat) (fun i=>⟨[(3,.p (.int .i64 i)),(0,.p (.seq (w.map fun x:Nat=>.int .u64 x)))],[]⟩) (fun i=>i<=w.length/\eC w=eC (w.take i)) (fun i=>i) w.length (by simp) ?_;rintro i ⟨k1,k2⟩
 by_cases hi:0<i
 ·obtain⟨j,rfl⟩:∃j,i=j+1:=⟨i-1,by omega⟩
  have d:a0.wrap (j:Int)=j:=aO _ (by omega) (by omega);have a:j<w.length:=by omega
  have c:(0:Int)<(j:Int)+1:=by omega
  have k3:=k2;rw[a8 a]at k2
  by_cases b:w[j]=0
  ·rw[b,B8]at k2;have e:((w[j]:Nat):Int)=0:=by omega
   simp[c,d,a,b];exact rd j ⟨by omega,k2⟩
  ·rw[vK _ _ b,<-a8 a]at k2;simp[c,d,a,b];refine⟨⟨by omega,by omega,RU w⟩,?_⟩;rw[k2,List.map_take];exact bG.refl _
 ·obtain rfl:i=0:=by omega
  simp[eC]at k2;simp[k2];exact RU w
def eN(n:Nat):PV:=.seq ((az wB n).map fun x:Nat=>.int .u64 x)
theorem bp:2<=wB:=by decide
def fP(a b:Nat):Int:=if a<b then -1 else if b<a then 1 else 0
theorem JM{a b:Nat}(h:(az wB a).length<(az wB b).length):a<b:=by
 have d:=cm bp a;rcases e6 a b with c|c
 ·exact c
 ·have:=dT bp (az wB a).length b (dq c d);omega
theorem Lj{a b i:Nat}(h:a/wB^(i+1)=b/wB^(i+1))(e:ae wB a i<ae wB b i):a<b:=by
 rw[cx,<-ck,<-ck]at h;have e1:=c9 (a/wB^i) wB;have e2:=c9 (b/wB^i) wB;rw[ae,ae]at e;rw[h]at e1;rcases e6 a b with d|d
 ·exact d
 ·have:=ew (c:=wB^i) d;omega
theorem YX{a b i:Nat}(h:a/wB^(i+1)=b/wB^(i+1))(c:ae wB a i=ae wB b i):a/wB^i=b/wB^i:=by
 rw[cx,<-ck,<-ck]at h;have e1:=c9 (a/wB^i) wB;have e2:=c9 (b/wB^i) wB;rw[ae,ae]at c;rw[h]at e1;omega
theorem IU(a b:Nat)(z:(az wB a).length<=1048576)(A:(az wB b).length<=1048576):aC prog 251 [eN a,eN b] (.int .i64 (fP a b)):=by
 refine aM nf OB mix (by simp[f251]) ?_
 by_cases g:(az wB a).length=(az wB b).length
 case neg=>
  have n:¬((az wB a).length:Int)=(az wB b).length:=by omega
  by_cases u:(az wB a).length<(az wB b).length
  ·have k:((az wB a).length:Int)<(az wB b).length:=by omega
   have:=JM u;have hc:fP a b= -1:=if_pos this;simp[f251,eN,n,k,hc]
  ·have k:¬((az wB a).length:Int)<(az wB b).length:=by omega
   have:=JM (a:=b) (b:=a) (by omega);have hc:fP a b=1:=by rw[fP,if_neg (by omega),if_pos this]
   simp[f251,eN,n,k,hc]
 have r:∀i(h:i<(az wB a).length),(az wB a)[i]=ae wB a i:=fun i h=>eH bp h;have s:∀i(h:i<(az wB b).length),(az wB b)[i]=ae wB b i:=fun i h=>eH bp h;have q:=cm bp a;have m:=cm bp b;rw[<-g]at m;have t:a/wB^(az wB a).length=b/wB^(az wB a).length:=by rw[cB q,cB m]
 have B:a=b\/a≠b:=by omega
 simp only[eN];generalize az wB a=x at*;generalize az wB b=y at*;have w:a0.wrap ((y.length:Int)-1)=y.length-1:=aO _ (by omega) (by omega);simp[f251,g,w];refine lp (α:=Nat) (fun i=>⟨[(5,.p (.int .i64 ((i:Int)-1))),(1,.p (.seq (y.map fun x:Nat=>.int .u64 x))),(0,.p (.seq (x.map fun x:Nat=>.int .u64 x)))],[]⟩) (fun i=>i<=y.length/\a/wB^i=b/wB^i) (fun i=>i) y.length ⟨fl _,by rw[<-g];exact t⟩ ?_;rintro i ⟨k1,k2⟩
 by_cases hi:0<i
 ·obtain⟨j,rfl⟩:∃j,i=j+1:=⟨i-1,by omega⟩
  have c:j<x.length:=by omega
  have d:j<y.length:=by omega
  have v:a0.wrap ((j:Int)-1)=j-1:=aO _ (by omega) (by omega);have e:=r j c;have f:=s j d
  by_cases hq:ae wB a j=ae wB b j
  ·simp[c,d,e,f,hq,v];exact rd j ⟨by omega,YX k2 hq⟩
  ·have o:¬(ae wB a j:Int)=ae wB b j:=by omega
   by_cases l:ae wB a j<ae wB b j
   ·have:=Lj k2 l;have hc:fP a b= -1:=if_pos this;simp[c,d,e,f,o,l,hc]
   ·have:=Lj k2.symm (show ae wB b j<ae wB a j by omega);have hc:fP a b=1:=by rw[fP,if_neg (by omega),if_pos this]
    simp[c,d,e,f,o,l,hc]
 ·obtain rfl:i=0:=by omega
  rw[gt,fm,fm]at k2;have hc:fP a b=0:=by rw[fP,if_neg (by omega),if_neg (by omega)]
  simp[hc]
@[simp] theorem K8{α:Type}{f:α->PV}:∀{l:List α},dO (l.map (AV.p∘f))=some (l.map f)
 |[]=>rfl
 |x::l=>by simp only[be,Function.comp,dO];rw[show(l.map (AV.p∘f))=l.map (fun x=>AV.p (f x))from rfl]at*;have:=@K8 α f l;rw[show(l.map (AV.p∘f))=l.map (fun x=>AV.p (f x))from rfl]at this;simp[this]
def uA(x:Nat):AV:=.p (.int .u64 x)
def gJ(n i:Nat)(f:Nat->Nat):List AV:=(a2 n).map fun j=>uA (if j<i then f j else 0)
theorem DB(n i:Nat)(f:Nat->Nat):(gJ n i f).length=n:=by simp[gJ]
theorem Mo(n:Nat)(f:Nat->Nat):cb n (AV.p (.int .u64 0))=gJ n 0 f:=by
 apply a6 (by simp[gJ]);intro i a b;simp[gJ,uA]
theorem DA{n i:Nat}(f:Nat->Nat)(h:i<n):(gJ n i f).set i (.p (.int .u64 (f i)))=gJ n (i+1) f:=by
 apply a6 (by simp[gJ]);intro j h1 c;simp only[gJ,b5,bv]at c;rw[b2];simp only[gJ,b3,bo,uA]
 by_cases a:i=j
 ·subst a;rw[if_pos rfl,if_pos (by omega)]
 ·rw[if_neg a]
  by_cases b:j<i
  ·rw[if_pos b,if_pos (by omega)]
  ·rw[if_neg b,if_neg (by omega)]
theorem Mp(n:Nat)(f:Nat->Nat):gJ n n f=((a2 n).map f).map (AV.p∘fun x:Nat=>PV.int .u64 x):=by
 rw[gJ,bi];apply bk;intro j a;rw[if_pos (List.mem_range.1 a)];rfl
@[simp] theorem aMw{N:Nat×Nat->Prop}{n i:Nat}{f:Nat->Nat}:aS N (gJ n i f)=True:=by
 rw[cL,eq_iff_iff,iff_true];intro v a;simp only[gJ,bb]at a;obtain⟨x,_,rfl⟩:=a;trivial
theorem wu{n i j:Nat}(f:Nat->Nat)(h:j<n):(gJ n i f)[j]?=some (uA (if j<i then f j else 0)):=by
 rw[gJ,b0,bl h];rfl
theorem VA{A C n:Nat}(a:A<wB^n)(b:C<wB^n):di wB A C n=ae wB (A+C) n:=by
 have c:0<wB^n:=cy (by decide);have:=lZ bp A C n;rw[di,cv a,cv b]at*;rw[ae,cv];exact dq this (by decide)
theorem Dv{n i:Nat}(h:(az wB n).length<=i):ae wB n i=0:=jw (dp (cm bp n) (eb (by decide) h))
theorem VE(a b:Nat)(E:(az wB a).length<=1000000)(F:(az wB b).length<=1000000):aC prog 250 [eN a,eN b] (eN (a+b)):=by
 refine aM nf OC mix (by simp[f250]) ?_;simp[f250,-bA];rw[bA];simp[-bA];refine join (fun s=>∃A C,A+C=a+b/\(az wB C).length<=(az wB A).length/\(az wB A).length<=1000000/\aN s.env 0=.p (eN A)/\aN s.env 1=.p (eN C)/\s.heap=[]) ?_ ?_
 ·by_cases T:(az wB a).length<(az wB b).length
  ·have j:((az wB a).length:Int)<(az wB b).length:=by omega
   simp[eN,j];exact⟨b,a,by omega,by omega,F,rfl,rfl⟩
  ·have j:¬((az wB a).length:Int)<(az wB b).length:=by omega
   simp[eN,j];exact⟨a,b,rfl,by omega,E,rfl,rfl⟩
 rintro⟨Q,S⟩ ⟨A,C,hs,K,U,f0,f1,B⟩;dsimp only at f0 f1 B;subst B;rw[<-hs];simp only[eN]at f0 f1⊢;have G:∀i(h:i<(az wB A).length),(az wB A)[i]=ae wB A i:=fun i h=>eH bp h;have H:∀i(h:i<(az wB C).length),(az wB C)[i]=ae wB C i:=fun i h=>eH bp h;have I:=cm bp A;have J:=dp (cm bp C) (eb (show 0<wB by decide) K);have t:=VA I J;have L:=@Dv C;have M:eC ((a2 ((az wB A).length+1)).map (ae wB (A+C)))=az wB (A+C):=jy bp (by
  have R:2*wB^(az wB A).length<=wB^((az wB A).length+1):=by rw[cx,cc];exact dg _ bp
  omega)
 have d:=ue ((a2 ((az wB A).length+1)).map (ae wB (A+C))) (by simp;omega);rw[M]at d;generalize az wB (A+C)=z at*;generalize az wB A=x at*;generalize az wB C=y at*;obtain⟨n,c⟩:∃n,x.length=n:=⟨_,rfl⟩
 obtain⟨m,o⟩:∃m,y.length=m:=⟨_,rfl⟩
 rw[c]at t d;have u:=Mp (n+1) (ae wB (A+C));have k:((a2 (n+1)).map (ae wB (A+C))).length=n+1:=by simp
 generalize (a2 (n+1)).map (ae wB (A+C))=l at d u k;have V:n<=1000000:=by omega
 have W:m<=n:=by omega
 have N:a0.wrap ((n:Int)+1)=n+1:=cr (by omega);simp[f0,f1,c,N];refine⟨⟨by omega,by simp only[cZ];omega⟩,?_⟩;rw[Mo (n+1) (ae wB (A+C))];refine lp (α:=Nat) (fun i=>⟨[(22,.p (.int .i64 i)),(21,.p (.int .i64 n)),(6,.p (.int .u64 (di wB A C i:Nat))),(5,.sl 0 0 1 0 (n+1)),(1,.p (.seq (y.map fun x:Nat=>.int .u64 x))),(0,.p (.seq (x.map fun x:Nat=>.int .u64 x)))],[.arr .exact 0 1 (gJ (n+1) i (ae wB (A+C)))]⟩)
  (fun i=>i<=n) (fun i=>n-i) 0 (by simp) ?_ (he:=by simp[f0,f1,yE])
 intro i k1;have D:=cr (i:=i) (by omega)
 by_cases hi:i<n
 ·have g:i<x.length:=by rw[c];exact hi
  have hx:=G i g;have e:=rr (ae wB A i) (ae wB C i) (di wB A C i) (lZ bp A C i);obtain⟨g1,g2⟩:=qO bp A C i;rw[g1,g2]at e;have aH:=DA (n:=n+1) (ae wB (A+C)) (show i<n+1 by omega);have ak:i<(gJ (n+1) i (ae wB (A+C))).length:=by rw[DB];omega
  have w:(gJ (n+1) i (ae wB (A+C))).length=n+1:=DB _ _ _;have X:gJ (n+1) i (ae wB (A+C))≠[]:=by intro h;rw[h]at w;simp at w
  have f:i<n+1:=by omega
  by_cases q:i<m
  ·have v:i<y.length:=by rw[o];exact q
   have O:=H i v;have r:(i:Int)<m:=by omega
   simp[c,o,hi,q,r,hx,O,g,v];refine c3 e ?_;simp[f,aH,D,wu _ f,ad,aL,bI,uA];exact rd (i+1) (show i+1<=n by omega)
  ·have r:¬(i:Int)<m:=by omega
   have P:=L (i:=i) (by omega);rw[P]at e;simp[c,o,hi,q,r,hx,g];refine c3 e ?_;simp[f,aH,D,wu _ f,ad,aL,bI,uA];exact rd (i+1) (show i+1<=n by omega)
 have:i=n:=by omega
 subst this;simp[c,t,wu _ (gg i),DA _ (gg i),u,ad,aL,bI,uA];refine cp d (by simp[k];exact⟨rfl,rfl⟩) ?_ (h1:=by simp[eW,a7,k]);simp;exact bG.refl _
end Go.au
namespace Go.au
open Go.Proofs
theorem Xm{x y c d:Nat}(h:x+wB=d+(y+c))(a:d<wB):(x+wB-y-c)% wB=d:=by rw[show x+wB-y-c=d by omega];exact cv a
theorem XG{x y c d:Nat}(h:x=d+(y+c))(a:d<wB):(x+wB-y-c)% wB=d:=by rw[show x+wB-y-c=d+wB by omega,ge];exact cv a
theorem Pa{A C:Nat}(h:C<=A)(i:Nat):aC prog 292 [.int .u64 (ae wB A i),.int .u64 (ae wB C i),.int .u64 (fu wB A C i)] (.aG [.int .u64 (ae wB (A-C) i),.int .u64 (fu wB A C (i+1))]):=by
 have c:fu wB A C i<=1:=by rw[fu];split<;>omega
 have a:=ZF (ae wB A i) (ae wB C i) (fu wB A C i) c;have b:=ct bp (A-C) i;have e:=ct bp A i;have f:=ct bp C i;have d:wB=18446744073709551616:=rfl;rcases LF bp h i with⟨e1,e2,e3⟩|⟨e1,e2,e3⟩
 ·rw[if_pos e1,Xm e3 b]at a;rw[e2];exact a
 ·rw[if_neg (by omega),XG e3 b]at a;rw[e2];exact a
theorem JW(A C:Nat)(k:C<=A)(D:(az wB A).length<=1000000):aC prog 252 [eN A,eN C] (eN (A-C)):=by
 refine aM nf HT mix (by simp[f252]) ?_;have F:(az wB C).length<=(az wB A).length:=dT bp _ _ (dq k (cm bp A));have s:∀i(h:i<(az wB A).length),(az wB A)[i]=ae wB A i:=fun i h=>eH bp h;have t:∀i(h:i<(az wB C).length),(az wB C)[i]=ae wB C i:=fun i h=>eH bp h;have u:=@Dv C;have v:eC ((a2 (az wB A).length).map (ae wB (A-C)))=az wB (A-C):=jy bp (dq (Nat.sub_le A C) (cm bp A));have b:=ue ((a2 (az wB A).length).map (ae wB (A-C))) (by simp;omega);rw[v]at b;simp only[eN];generalize az wB (A-C)=z at*;generalize az wB A=x at*;generalize az wB C=y at*;obtain⟨n,a⟩:∃n,x.length=n:=⟨_,rfl⟩
 obtain⟨m,f⟩:∃m,y.length=m:=⟨_,rfl⟩
 rw[a]at b;have o:=Mp n (ae wB (A-C));have e:((a2 n).map (ae wB (A-C))).length=n:=by simp
 generalize (a2 n).map (ae wB (A-C))=l at b o e;have E:n<=1000000:=by omega
 have H:m<=n:=by omega
 simp[f252,a];refine⟨by simp only[cZ];omega,?_⟩;rw[Mo n (ae wB (A-C))];refine lp (α:=Nat) (fun i=>⟨[(14,.p (.int .i64 i)),(13,.p (.int .i64 n)),(6,.p (.int .u64 (fu wB A C i:Nat))),(5,.sl 0 0 1 0 n),(1,.p (.seq (y.map fun x:Nat=>.int .u64 x))),(0,.p (.seq (x.map fun x:Nat=>.int .u64 x)))],[.arr .exact 0 1 (gJ n i (ae wB (A-C)))]⟩)
  (fun i=>i<=n) (fun i=>n-i) 0 (by simp) ?_ (he:=by simp[B7])
 intro i k1;have r:=cr (i:=i) (by omega)
 by_cases hi:i<n
 ·have d:i<x.length:=by rw[a];exact hi
  have hx:=s i d;have c:=Pa k i;have aH:=DA (n:=n) (ae wB (A-C)) hi;have G:(gJ n i (ae wB (A-C))).length=n:=DB _ _ _
  by_cases g:i<m
  ·have q:i<y.length:=by rw[f];exact g
   have w:=t i q;have j:(i:Int)<m:=by omega
   simp[a,f,hi,g,j,hx,w,d,q];refine c3 c ?_;simp[hi,aH,r,wu _ hi,ad,aL,bI,uA];exact rd (i+1) (show i+1<=n by omega)
  ·have j:¬(i:Int)<m:=by omega
   have B:=u (i:=i) (by omega);rw[B]at c;simp[a,f,hi,g,j,hx,d];refine c3 c ?_;simp[hi,aH,r,wu _ hi,ad,aL,bI,uA];exact rd (i+1) (show i+1<=n by omega)
 have:i=n:=by omega
 subst this;simp[a,o,ad,aL,bI,uA];refine cp b (by simp[e];exact⟨rfl,rfl⟩) ?_ (h1:=by simp[eW,a7,e]);simp;exact bG.refl _
end Go.au
namespace Go.Proofs
open Go.Shelf
def Tryz.Vg:Go.Shelf.Ren:=⟨fun|134=>331|129=>305|n=>n,fun|53=>308|3=>3|4=>4|46=>322|5=>5|9=>9|n=>n,fun|n=>n⟩
theorem Tryz.aFu:Go.Proofs.Lays.n134 prog Vg:={
 mixed:=by kernel_rfl
 f129:=func305.trans (congrArg some (by kernel_rfl))
 f134:=func331.trans (congrArg some (by kernel_rfl))
 t3:=underlying3
 a3:=isAgg3
 z3:=sizeOf3
 v3:=zeroValue3
 t4:=underlying4
 a4:=isAgg4
 z4:=sizeOf4
 v4:=zeroValue4
 t5:=underlying5
 a5:=isAgg5
 z5:=sizeOf5
 v5:=zeroValue5
 t9:=underlying9
 a9:=isAgg9
 z9:=sizeOf9
 v9:=zeroValue9
 t46:=underlying322
 a46:=isAgg322
 z46:=sizeOf322
 v46:=zeroValue322
 t53:=underlying308
 a53:=isAgg308
 z53:=sizeOf308
 v53:=zeroValue308}
theorem Tryz.bits_LeadingZeros64(x:Int)(w:am)(a:0<=x)(b:x<=18446744073709551615):
 aT prog 331 #[.int .u64 x] w fun e w'=>e=.returned (.int .i64 (64-(Lib.bitLen x.toNat:Int)))/\w'=w:=Any.bits_LeadingZeros64 aFu x w a b
def Tryz.Vh:Go.Shelf.Ren:=⟨fun|129=>305|n=>n,fun|53=>308|3=>3|4=>4|46=>322|5=>5|9=>9|n=>n,fun|n=>n⟩
theorem Tryz.aFr:Go.Proofs.Lays.n129 prog Vh:={
 mixed:=by kernel_rfl
 f129:=func305.trans (congrArg some (by kernel_rfl))
 t3:=underlying3
 a3:=isAgg3
 z3:=sizeOf3
 v3:=zeroValue3
 t4:=underlying4
 a4:=isAgg4
 z4:=sizeOf4
 v4:=zeroValue4
 t5:=underlying5
 a5:=isAgg5
 z5:=sizeOf5
 v5:=zeroValue5
 t9:=underlying9
 a9:=isAgg9
 z9:=sizeOf9
 v9:=zeroValue9
 t46:=underlying322
 a46:=isAgg322
 z46:=sizeOf322
 v46:=zeroValue322
 t53:=underlying308
 a53:=isAgg308
 z53:=sizeOf308
 v53:=zeroValue308}
theorem Tryz.bits_Len64(x:Int)(w:am)(a:0<=x)(b:x<=18446744073709551615):
 aT prog 305 #[.int .u64 x] w fun e w'=>e=.returned (.int .i64 (Lib.bitLen x.toNat))/\w'=w:=Any.bits_Len64 aFr x w a b
def Tryz.Ve:Go.Shelf.Ren:=⟨fun|264=>255|n=>n,fun|53=>308|46=>322|n=>n,fun|n=>n⟩
theorem Tryz.aF1:Go.Proofs.Lays.n264 prog Ve:={
 mixed:=by kernel_rfl
 f264:=func255.trans (congrArg some (by kernel_rfl))
 t46:=underlying322
 a46:=isAgg322
 z46:=sizeOf322
 v46:=zeroValue322
 t53:=underlying308
 a53:=isAgg308
 z53:=sizeOf308
 v53:=zeroValue308}
open Go.RowKit Go.Lib in
theorem Tryz.bits_Mul64(x y:Nat)(hx:x<18446744073709551616)(hy:y<18446744073709551616)(w:am):
 aT prog 255 #[.int .u64 x,.int .u64 y] w fun e w'=>e=.returned (.tuple #[.int .u64 ((x*y/18446744073709551616:Nat):Int),.int .u64 ((x*y% 18446744073709551616:Nat):Int)])/\w'=w:=Any.bits_Mul64 aF1 x y hx hy w
end Go.Proofs
namespace Go.au
open Go.Proofs
section
variable[Gl]{P:ao}
theorem iX{f:an}{fn:Func}(h:P.funcs[f]?=some fn)(hs:(fn.body.isSome&&(fn.name != "runtime.NumGoroutine"))=true):Enters P f:=by
 intro args w;simp only[Bool.and_eq_true,bne_iff_ne]at hs;cases a:fn.body with
 |none=>rw[a]at hs;simp at hs
 |some c=>simp[callFunc,h,hs.2,a]
theorem jN{f:an}{args:List PV}{v:PV}(l:Enters P f)
 (h:∀(w:am)(aa:Nat->Prop)(a:List ap),(∀k,aa k->k<w.heap.size)->mU P w aa->bt P w aa args a->
  aT P f a.toArray w fun e w'=>∃b,e=.returned b/\(w.heap.size<=w'.heap.size/\(∀k,k<w.heap.size->w'.heap[k]?=w.heap[k]?)/\w'.os=w.os/\w'.output=w.output)/\∀(w:am)(aa:Nat->Prop),aD P w aa v b):aC P f args v:=by
 refine .inl ⟨l,fun w aa a d m j=>(h w aa a d m j).mono ?_⟩;rintro e w' ⟨b,rfl,⟨c,g,n⟩,i⟩;exact⟨b,aa,rfl,fun _ x=>x,fun _ x=>.inl x,fun k hk=>dp (d k hk) c,c,g,n,i _ _⟩
theorem mN{w:am}{aa:Nat->Prop}{a b:PV}{cs:List ap}(h:bt P w aa [a,b] cs):∃x y,cs=[x,y]/\aD P w aa a x/\aD P w aa b y:=by
 simp only[bt]at h;obtain⟨x,xs,rfl,c,y,e,rfl,d,rfl⟩:=h;exact⟨x,y,rfl,c,d⟩
theorem zg{w:am}{aa:Nat->Prop}{a:PV}{cs:List ap}(h:bt P w aa [a] cs):∃x,cs=[x]/\aD P w aa a x:=by
 simp only[bt]at h;obtain⟨x,xs,rfl,b,rfl⟩:=h;exact⟨x,rfl,b⟩
end
theorem zy(x y:Nat)(hx:x<18446744073709551616)(g:y<18446744073709551616):aC prog 255 [.int .u64 x,.int .u64 y] (.aG [.int .u64 ((x*y/18446744073709551616:Nat):Int),.int .u64 ((x*y% 18446744073709551616:Nat):Int)]):=by
 refine jN (iX func255 (by kernel_rfl)) fun w aa h _ _ f=>?_;obtain⟨a,b,rfl,c,d⟩:=mN f;simp only[aD]at c d;subst c d;refine(bits_Mul64 x y hx g w).mono ?_;rintro e w' ⟨rfl,rfl⟩;refine⟨_,rfl,⟨fl _,fun _ _=>rfl,rfl,rfl⟩,fun w aa=>?_⟩;simp only[aD,bt];exact⟨[_,_],⟨_,_,rfl,rfl,_,_,rfl,rfl,rfl⟩,rfl⟩
theorem Pc(x:Nat)(hx:x<18446744073709551616):aC prog 331 [.int .u64 x] (.int .i64 (64-(Lib.bitLen x:Int))):=by
 refine jN (iX func331 (by kernel_rfl)) fun w aa d _ _ c=>?_;obtain⟨a,rfl,b⟩:=zg c;simp only[aD]at b;subst b;refine(bits_LeadingZeros64 x w (by omega) (by omega)).mono ?_;rintro e w' ⟨rfl,rfl⟩;refine⟨_,rfl,⟨fl _,fun _ _=>rfl,rfl,rfl⟩,fun w aa=>?_⟩;simp only[aD];rfl
end Go.au
namespace Go.au
open Go.Proofs
theorem fC(n:Int)(h:0<=n)(a:n<wB):a1.wrap n=n:=IntWalk.u64_in n ⟨h,by simp only[wB]at a;omega⟩
def ch(n:Nat)(f:Nat->Nat):List AV:=(a2 n).map fun j=>uA (f j)
theorem Na(n:Nat)(f:Nat->Nat):(ch n f).length=n:=by simp[ch]
theorem mK{n j:Nat}(f:Nat->Nat)(h:j<n):(ch n f)[j]?=some (.p (.int .u64 (f j))):=by
 rw[ch,b0,bl h];rfl
theorem C5{n:Nat}{f:Nat->Nat}(h:∀j,f j=0):cb n (AV.p (.int .u64 0))=ch n f:=by
 apply a6 (by simp[ch]);intro i a b;simp[ch,uA,h]
theorem pK{n i v:Nat}{f g:Nat->Nat}(d:g i=v)(c:∀k,k≠i->g k=f k):(ch n f).set i (.p (.int .u64 v))=ch n g:=by
 apply a6 (by simp[ch]);intro j e b;simp only[ch,b5,bv]at b;rw[b2];simp only[ch,b3,bo,uA]
 by_cases a:i=j
 ·subst a;rw[if_pos rfl,d]
 ·rw[if_neg a,c j (by omega)]
theorem C6(n:Nat)(f:Nat->Nat):ch n f=((a2 n).map f).map (AV.p∘fun x:Nat=>PV.int .u64 x):=by
 rw[ch,bi];rfl
theorem Cq{n:Nat}{f g:Nat->Nat}(h:∀k,f k=g k):ch n f=ch n g:=by rw[show f=g from funext h]
@[simp] theorem aMv{N:Nat×Nat->Prop}{n:Nat}{f:Nat->Nat}:aS N (ch n f)=True:=by
 rw[cL,eq_iff_iff,iff_true];intro v a;simp only[ch,bb]at a;obtain⟨x,_,rfl⟩:=a;trivial
@[simp] theorem aMz{σ:Nat->Nat}{n:Nat}{f:Nat->Nat}:cJ σ (ch n f)=ch n f:=by
 have:∀l:List Nat,cJ σ (l.map fun j=>uA (f j))=l.map fun j=>uA (f j):=by
  intro l
  induction l with
  |nil=>rfl
  |cons a r b=>simp only[be,cJ,b];rfl
 exact this _
theorem mul_two(P o k:Nat)(h:(P+o+k)/wB<wB)(a:o<wB)(hk:k<wB):
 ((P% wB+o+0)% wB+k+0)% wB=(P+o+k)% wB/\P/wB+(P% wB+o+0)/wB+((P% wB+o+0)% wB+k+0)/wB=(P+o+k)/wB/\P/wB+(P% wB+o+0)/wB<wB:=by
 simp only[wB]at*;omega
theorem VC(a b:Nat)(D:(az wB a).length+(az wB b).length<=1000000):aC prog 257 [eN a,eN b] (eN (a*b)):=by
 refine aM nf OM mix (by simp[f257]) ?_;have Q:∀i(h:i<(az wB a).length),(az wB a)[i]=ae wB a i:=fun i h=>eH bp h;have R:∀i(h:i<(az wB b).length),(az wB b)[i]=ae wB b i:=fun i h=>eH bp h;have t:=cm bp a;have q:=cm bp b;have V:eC ((a2 ((az wB a).length+(az wB b).length)).map (ae wB (a*b)))=az wB (a*b):=jy bp (by
  rw[ej];exact ea t q)
 have e:=ue ((a2 ((az wB a).length+(az wB b).length)).map (ae wB (a*b))) (by simp;omega);rw[V]at e;simp only[eN];generalize az wB (a*b)=z at*;generalize az wB a=x at*;generalize az wB b=y at*;obtain⟨n,d⟩:∃n,x.length=n:=⟨_,rfl⟩
 obtain⟨m,c⟩:∃m,y.length=m:=⟨_,rfl⟩
 rw[d]at t e D;rw[c]at q e D;have E:=C6 (n+m) (ae wB (a*b));have u:((a2 (n+m)).map (ae wB (a*b))).length=n+m:=by simp
 generalize (a2 (n+m)).map (ae wB (a*b))=l at e E u;have ah:a0.wrap ((n:Int)+m)=((n+m:Nat):Int):=by rw[aO _ (by omega) (by omega)];omega
 have U:((n:Int)+m).toNat=n+m:=by omega
 have T:0<=(n:Int)+m:=by omega
 have Y:a0.wrap ((n:Int)+m)=(n:Int)+m:=aO _ (by omega) (by omega);simp[f257,d,c,Y,U,T];refine⟨by simp only[cZ];omega,?_⟩;rw[C5 (f:=dj wB a b 0 0) (by intro j;simp[pD,em,ae])];refine lp (α:=Nat) (fun i=>⟨[(22,.p (.int .i64 i)),(21,.p (.int .i64 n)),(20,.p (.seq (x.map fun x:Nat=>.int .u64 x))),(5,.sl 0 0 1 0 (n+m)),(1,.p (.seq (y.map fun x:Nat=>.int .u64 x)))],[.arr .exact 0 1 (ch (n+m) (dj wB a b i 0))]⟩)
  (fun i=>i<=n) (fun i=>n-i) 0 (by simp) ?_ (he:=by simp)
 intro i k1;have W:=cr (i:=i) (by omega)
 by_cases hi:i<n
 ·have F:i<x.length:=by rw[d];exact hi
  have hx:=Q i F;simp[d,c,hi,F,hx];refine lp (α:=Nat) (fun j=>⟨[(29,.p (.int .i64 j)),(28,.p (.int .i64 m)),(27,.p (.seq (y.map fun x:Nat=>.int .u64 x))),(8,.p (.int .u64 (mulC wB a b i j:Nat))),(7,.p (.int .u64 (ae wB a i:Nat))),(6,.p (.int .i64 i)),(22,.p (.int .i64 i)),(21,.p (.int .i64 n)),(20,.p (.seq (x.map fun x:Nat=>.int .u64 x))),(5,.sl 0 0 1 0 (n+m)),(1,.p (.seq (y.map fun x:Nat=>.int .u64 x)))],[.arr .exact 0 1 (ch (n+m) (dj wB a b i j))]⟩)
   (fun j=>j<=m) (fun j=>m-j) 0 (by simp) ?_ (he:=by simp[Cp])
  intro j k2;have X:=cr (i:=j) (by omega);have A:((i:Int)+j).toNat=i+j:=by omega
  have w:0<=(i:Int)+j:=by omega
  have I:a0.wrap ((i:Int)+j)=(i:Int)+j:=aO _ (by omega) (by omega)
  by_cases G:j<m
  ·have H:j<y.length:=by rw[c];exact G
   have aa:=R j H;have s:i+j<n+m:=by omega
   have o:=mK (dj wB a b i j) s;have r:=C4 bp a b i j;have N:=ua bp a b i j;have O:=ua bp a b i (j+1);have P:dj wB a b i j (i+j)<wB:=by rw[dj];split<;>exact ct bp _ _
   obtain⟨e1,e2,e3⟩:=mul_two (ae wB a i*ae wB b j) (dj wB a b i j (i+j)) (mulC wB a b i j) (by rw[r.2];exact O) P N;rw[r.1]at e1;rw[r.2]at e2;have J:=zy (ae wB a i) (ae wB b j) (ct bp _ _) (ct bp _ _);rw[show(18446744073709551616:Nat)=wB from rfl]at J;have ab:=rr (ae wB a i*ae wB b j% wB) (dj wB a b i j (i+j)) 0 (by omega);have K:=rr ((ae wB a i*ae wB b j% wB+dj wB a b i j (i+j)+0)% wB) (mulC wB a b i j) 0 (by omega);rw[e1]at K;have hs:=pK (n:=n+m) (i:=i+j) (f:=dj wB a b i j) (g:=dj wB a b i (j+1)) (Mm a b i j) (fun k hk=>KD bp hk);generalize ae wB a i*ae wB b j% wB=L at*;generalize ae wB a i*ae wB b j/wB=B at*;generalize (L+dj wB a b i j (i+j)+0)% wB=ac at*;generalize (L+dj wB a b i j (i+j)+0)/wB=C at*;generalize (ac+mulC wB a b i j+0)/wB=af at*;have M:a1.wrap ((B:Int)+C)=((B+C:Nat):Int):=by rw[fC _ (by omega) (by omega)];omega
   have ag:a1.wrap ((B:Int)+C+af)=(mulC wB a b i (j+1):Nat):=by rw[fC _ (by omega) (by omega)];omega
   simp[d,c,G,H,aa];refine c2 J ?_;simp[I,A,w,s,o,ad,aL,bI];refine c3 ab ?_;simp[M];refine c3 K ?_;simp[I,A,w,s,o,hs,M,ag,X,ad,aL,bI];exact rd (j+1) (show j+1<=m by omega)
  have:j=m:=by omega
  subst this;have Z:a0.wrap ((i:Int)+j)=(i:Int)+j:=aO _ (by omega) (by omega);have ak:i+j<n+j:=by omega
  have o:=mK (dj wB a b i j) ak;have hs:=pK (n:=n+j) (i:=i+j) (f:=dj wB a b i j) (g:=dj wB a b (i+1) 0) (v:=mulC wB a b i j) (by rw[pD,Jq bp q]) (fun k hk=>by rw[pD,Mn bp q hk]);simp[c,Z,A,w,hi,ak,o,hs,W,ad,aL,bI];exact rd (i+1) (show i+1<=n by omega)
 have:i=n:=by omega
 subst this;have S:ch (i+m) (dj wB a b i 0)=ch (i+m) (ae wB (a*b)):=Cq fun k=>by rw[pD,cv t]
 simp[d,S,E];refine cp e (by simp[u];exact⟨rfl,rfl⟩) ?_ (h1:=by simp[eW,a7,u]);simp;exact bG.refl _
end Go.au
