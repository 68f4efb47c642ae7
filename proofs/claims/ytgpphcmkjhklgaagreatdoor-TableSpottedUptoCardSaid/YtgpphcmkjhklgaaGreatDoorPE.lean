import Derived.Test.YtgpphcmkjhklgaaGreatDoorPD
import Derived.Deep.DeepHandedRow
import Derived.Deep.DeepWitnessRowRef
import Derived.Seven
import Derived.SevenTiedAt
import Derived.Test.YtgpphcmkjhklgaaGreatDoorPA
import Derived.KernelRfl
import Derived.Shelf.Spec.BitsCarry
import Derived.Shelf.Strings.Builder1
import Derived.Shelf.Strings.Builder2
import Derived.Shelf.Strings.Trim
import Derived.Shelf.Small.Utf8
import Derived.Shelf.Small.Bits
import Derived.Shelf.Small.Strs
import Derived.Shelf.Small.Wraps
import Derived.Shelf.Strings.BuilderF
import Derived.Shelf.Strings.Builder2Cap
import Derived.Shelf.Strconv.Atoi
import Derived.Shelf.Strconv.Itoa0
import Derived.Shelf.Strconv.Itoa1
import Derived.Shelf.LaysM
import Derived.Shelf.Strconv.Itoa2
import Derived.Shelf.Strconv.Itoa3
import Derived.Shelf.Strconv.AtoiErrFast
import Derived.Shelf.Strconv.ParseIntEmpty
import Derived.Shelf.Strconv.AtoiFail
import Derived.Shelf.Strconv.Clone
import Derived.Shelf.Strconv.SyntaxError
import Derived.Shelf.LaysC
import Derived.Shelf.Strconv.ToError
import Derived.Shelf.Strconv.Lower
import Derived.Shelf.Strconv.ParseUint10
import Derived.Shelf.Strconv.ParseUint10Empty
import Derived.Shelf.Strconv.ParseUint10Any
import Derived.Shelf.Strconv.ParseInt10
import Derived.Shelf.Strconv.AtoiLong
import Derived.Shelf.Strconv.AtoiInnerAll
import Derived.Shelf.Strconv.RangeError
import Derived.Shelf.Strconv.ToErrorRange
import Derived.Shelf.Strconv.AtoiAll
import Derived.Shelf.Strconv.ParseUintEmpty
import Derived.Shelf.Strings.Search1
import Derived.Shelf.Strings.Search2
import Derived.Shelf.Strings.Search3
import Derived.Shelf.Strings.Cut
import Derived.Shelf.Strings.Count
import Derived.Shelf.Strings.Shaped
import Derived.Shelf.Strings.Prefix
import Derived.Shelf.Unicode.Decode
import Derived.Shelf.Strings.Runes
import Derived.Shelf.Strings.AsciiSet
import Derived.Shelf.Bits.Mul64
import Derived.Shelf.Strings.Repeat
import Derived.Shelf.Unicode.DecodeSlow
import Derived.Shelf.Unicode.DecodeAny
import Derived.Shelf.Unicode.DecodeLast
import Derived.Shelf.Slices.Turned
import Derived.Test.YtgpphcmkjhklgaaGreatDoorProg
/- Parts of a proof. -/
set_option linter.unusedSimpArgs false
set_option linter.unusedVariables false
set_option linter.unusedSectionVars false
open Go.Proofs.Tryz
open Go renaming World->am, FuncId->an, Program->ao, Value->ap, OpenSpec->av, run_callFunc_extern->ax, Checked->ay, ReturnsInHanded->aT, Calls->a0
open Go.IntKind renaming i64->a1, u64->a2
open List renaming range->a6, ext_getElem->a7, take_of_length_le->a8, take_succ_eq_append_getElem->bb, mem_map->be, map_cons->bi, map_map->bk, map_congr_left->bl, getElem?_range->bo, getElem_range->bv, length_range->b0, getElem?_map->b1, length_cons->b2, getElem_set->b3, getElem_map->b4, cons_append->b5, length_map->cb, replicate->cc
open Nat renaming mul_comm->ce, div_lt_iff_lt_mul->ck, div_div_eq_div_mul->cv, mod_eq_of_lt->cx, pow_succ->cy, pow_pos->c6, mul_le_mul_right->c9, div_eq_of_lt->da, add_mul_div_left->db, mul_assoc->dg, mod_add_div->dk, div_add_mod->dl, mod_lt->dp, le_div_iff_mul_le->dq, mul_le_mul_left->dz, mul_add->ea, add_mul->eb, lt_of_lt_of_le->ec, lt_of_le_of_lt->ed, add_mul_div_right->ee, mul_lt_mul''->ei, pow_le_pow_right->ej, div_mul_le_self->em, eq_zero_or_pos->en, add_mul_mod_self_right->eo, add_mul_mod_self_left->eq, pow_add->ew, mod_one->e6, add_comm->e7, div_lt_self->e8, mod_mul_right_mod->e9, div_le_div_right->fa, lt_or_ge->fb, one_mul->fd, mul_pos->fl, add_mod->fm, mul_mod_mul_left->fv, mod_mul->fZ, le_refl->gb, div_one->gc, mul_right_comm->ge, lt_div_mul_add->gg, add_sub_cancel->gi, mul_left_comm->gj, add_mod_right->gm, lt_succ_self->gt, strongRecOn->gx, mul_add_div->gy, mul_le_mul->g0, zero_add->g3, pow_zero->g4, add_zero->g5
namespace Go.ag
open Go.Proofs
section
variable{H:Type}{enc:TypeId×ap->H}
theorem vz{p:Pinned}{C:ay}{P:ao}(b:p.checked=C)(d:C.prog=P){s:av}{c:OpenClaim}(f:an)(fn:Func)
 (l:c.program=p.name)(hs:c.sum=p.sum)(q:c.spec=s.name)
 (r:c.start=.entering)(o:c.outside=[])(ak:c.inits=[])(u:c.under=none)(i:c.initsInPlace=[]/\c.initsUnfollowed=false/\c.initsRecurse=false/\c.initsNamed=[]/\c.initsPassed=[])(n:c.noBlocks=false)(k:c.leaving=false)(g:c.followed=none)(m:c.narrowed=s.cond.isSome)(t:c.still=false)
 (e:P.funcNamed c.func=some f)(hf:P.funcs[f]?=some fn)
 (closed:joinedFacts P f fn s.bare c=true)
 (j:fn.isInstance P c.origin c.targs)(v:fn.isWrapper P c.wrapper c.mainSum)
 (h:∀os:Os,os.Started->∀(H:Type)(a:TypeId×ap->H)(F:Stop.Interp),
  aT c.assume C os f .any (s.preRow a P fn c.domain c.apart c.laid) ((s.at F).post a P fn c.apart c.fresh c.handsOn c.again)):c.holds p s:=by
 subst b;subst d;exact OpenClaim.holds_of_cond f fn l hs q r o ak u i n k g m t e hf closed j v (fun os st H a _ F=>by rw[OpenClaim.pre_eq_preRow];exact h os st H a F)
theorem yf{a:Assume}{C:ay}{P:ao}(q:C.prog=P){os:Os}{f:an}{fn:Func}{s:av}{F:Stop.Interp}{h:List PathCond}{apart fresh handsOn again:Bool}{laid:List (String×DataW Unit)}
 (x:ownKnob P.godebug=none)(y:os.Started)(u:P.inits.idxOf? f=none)(r:P.funcs[f]?=some fn)
 (z:∃(w:am)(tape:Tape)(i:Input),w.os=os/\(w.forCall tape i).Shaped P/\i.vars=[]/\Input.okWide P (w.forCall tape i) .any w.heap.size f i/\
  s.preRow enc P fn h apart laid (w.forCall tape i).memory i.args/\a.holds P (lone (Frame.enter P f i.args .normal) [] (w.forCall tape i)))
 (my:∀(W:am)(d:Nat)(args:Array ap)(b c:List (DataW H))(g:List MemPlace),
  (∀(j:Nat) t v,fn.params[j]?=some t->args[j]?=some v->Value.okWide P W .any d t v)->
  DataW.Whole enc P fn.params.toList s.vars apart W args.toList b c g->
  (∀k,s.cond=some k->k H (b++c)=true)->
  laidMetH P laid W->
  a0 P f args W fun e l=>∃v,e=.returned v/\(s.at F).post enc P fn apart fresh handsOn again W args v l):
 aT a C os f .any (s.preRow enc P fn h apart laid) ((s.at F).post enc P fn apart fresh handsOn again):=by
 subst q;exact returnsInHanded_of_row x y u r z (fun W d args b c g m n _ o _ p _ _=>my W d args b c g m n o p)
theorem xY{C:ay}{P:ao}(c:C.prog=P){os:Os}{f:an}{fn:Func}{s:av}{b:List PathCond}{apart:Bool}{laid:List (String×DataW Unit)}(a:am)(args:Array ap)(e:a.os=os)
 (j:(a.forCall (fun _ _=>0) ⟨#[],args,[]⟩).variablesRefB P=true)
 (g:((a.forCall (fun _ _=>0) ⟨#[],args,[]⟩).heap.toList.drop P.globals.size).take ((begin P (fun _ _=>0) default).world.heap.size-P.globals.size)=
  (begin P (fun _ _=>0) default).world.heap.toList.drop P.globals.size)
 (d:Input.okWideB P (a.forCall (fun _ _=>0) ⟨#[],args,[]⟩) f ⟨#[],args,[]⟩=true)
 (h:s.preRow enc P fn b apart laid (a.forCall (fun _ _=>0) ⟨#[],args,[]⟩).memory args):
 ∃(w:am)(tape:Tape)(i:Input),w.os=os/\(w.forCall tape i).Shaped P/\i.vars=[]/\Input.okWide P (w.forCall tape i) .any w.heap.size f i/\
  s.preRow enc P fn b apart laid (w.forCall tape i).memory i.args/\({modest:=false}:Assume).holds P (lone (Frame.enter P f i.args .normal) [] (w.forCall tape i)):=by
 subst c;exact witness_row_atRef (C:=C) false a args e j g d h
theorem vE{p:Pinned}{C:ay}{P:ao}(m:p.checked=C)(n:C.prog=P)(d:Looks){s:av}{c:OpenClaim}(kinds:List LaidKind)(e:Bool)(a:Bool×String)(b:Bool){g:an}{i:Func}
 (hc:c.holds p s)(A:c.wfByText s=true)(z:c.laidByTextAt d p kinds e)
 (aK:c.start=.entering)(w:c.noBlocks=false/\c.again=false)(u:P.mainIs=some (a.1,a.2.toList))(v:(!a.1&&a.2.isEmpty&&!b)=false)
 (o:P.funcNamed c.func=some g)(hf:P.funcs[g]?=some i)(r:b=P.looks [])(x:∀t∈i.params.toList,P.wantsStandIn t=false)
 (q:false=c.goesBy P):
 Claim7.holds p (.plain s) {stood:={row:=c,standIns:=[],harness:=a,looks:=b},kinds:=[],alts:=[],laidByText:=true,laidKinds:=kinds,laidTests:=e,laidLooks:=d}:=by
 subst m;subst n;refine Claim7.holds_tied_plain_at d [] kinds e a b hc (fun _ h=>by cases h) A (fun _ h=>by cases h) z aK w u v (fun f fn k l=>?_) q;rw[o]at k;cases k;rw[hf]at l;cases l;exact⟨r,fun j t y=>x t (by simpa using Array.mem_of_getElem? y)⟩
end
theorem ni:Go.Proofs.YtgpphcmkjhklgaaGreatDoor.Tryz.pinned.checked=checked:=rfl
theorem ia:checked.prog=prog:=rfl
theorem vB:true=prog.looks []:=by kernel_rfl
theorem wo:ownKnob prog.godebug=none:=by kernel_rfl
theorem mix:prog.follows .mixedOrders=true:=by kernel_rfl
abbrev nf:an->Bool:=fun _=>false
theorem axM:aq prog 2 f2:=⟨func2,by kernel_rfl⟩
theorem Fo:aq prog 3 f3:=⟨func3,by kernel_rfl⟩
theorem mE:aq prog 4 f4:=⟨func4,by kernel_rfl⟩
theorem sW:aq prog 5 f5:=⟨func5,by kernel_rfl⟩
theorem jR:aq prog 6 f6:=⟨func6,by kernel_rfl⟩
theorem aDc:aq prog 7 f7:=⟨func7,by kernel_rfl⟩
theorem aDl:aq prog 8 f8:=⟨func8,by kernel_rfl⟩
theorem Fp:aq prog 9 f9:=⟨func9,by kernel_rfl⟩
theorem aww:aq prog 10 f10:=⟨func10,by kernel_rfl⟩
theorem Qc:aq prog 11 f11:=⟨func11,by kernel_rfl⟩
theorem awC:aq prog 12 f12:=⟨func12,by kernel_rfl⟩
theorem Fj:aq prog 13 f13:=⟨func13,by kernel_rfl⟩
theorem Qd:aq prog 14 f14:=⟨func14,by kernel_rfl⟩
theorem Qe:aq prog 15 f15:=⟨func15,by kernel_rfl⟩
theorem Qf:aq prog 16 f16:=⟨func16,by kernel_rfl⟩
theorem Qg:aq prog 17 f17:=⟨func17,by kernel_rfl⟩
theorem Fk:aq prog 18 f18:=⟨func18,by kernel_rfl⟩
theorem Fl:aq prog 19 f19:=⟨func19,by kernel_rfl⟩
theorem Qh:aq prog 20 f20:=⟨func20,by kernel_rfl⟩
theorem Qi:aq prog 21 f21:=⟨func21,by kernel_rfl⟩
theorem Qj:aq prog 22 f22:=⟨func22,by kernel_rfl⟩
theorem Qk:aq prog 23 f23:=⟨func23,by kernel_rfl⟩
theorem Ql:aq prog 24 f24:=⟨func24,by kernel_rfl⟩
theorem Qm:aq prog 25 f25:=⟨func25,by kernel_rfl⟩
theorem Qn:aq prog 26 f26:=⟨func26,by kernel_rfl⟩
theorem Qo:aq prog 27 f27:=⟨func27,by kernel_rfl⟩
theorem Fm:aq prog 28 f28:=⟨func28,by kernel_rfl⟩
theorem Qp:aq prog 29 f29:=⟨func29,by kernel_rfl⟩
theorem Qq:aq prog 30 f30:=⟨func30,by kernel_rfl⟩
theorem Qr:aq prog 31 f31:=⟨func31,by kernel_rfl⟩
theorem Qs:aq prog 32 f32:=⟨func32,by kernel_rfl⟩
theorem Qt:aq prog 33 f33:=⟨func33,by kernel_rfl⟩
theorem y6:aq prog 34 f34:=⟨func34,by kernel_rfl⟩
theorem Qu:aq prog 35 f35:=⟨func35,by kernel_rfl⟩
theorem Qv:aq prog 36 f36:=⟨func36,by kernel_rfl⟩
theorem Qw:aq prog 37 f37:=⟨func37,by kernel_rfl⟩
theorem Qx:aq prog 38 f38:=⟨func38,by kernel_rfl⟩
theorem aCu:aq prog 39 f39:=⟨func39,by kernel_rfl⟩
theorem aCv:aq prog 40 f40:=⟨func40,by kernel_rfl⟩
theorem aCB:aq prog 41 f41:=⟨func41,by kernel_rfl⟩
theorem Qy:aq prog 42 f42:=⟨func42,by kernel_rfl⟩
theorem aCE:aq prog 43 f43:=⟨func43,by kernel_rfl⟩
theorem aCG:aq prog 44 f44:=⟨func44,by kernel_rfl⟩
theorem aCK:aq prog 45 f45:=⟨func45,by kernel_rfl⟩
theorem aCO:aq prog 46 f46:=⟨func46,by kernel_rfl⟩
theorem aCP:aq prog 47 f47:=⟨func47,by kernel_rfl⟩
theorem aCV:aq prog 48 f48:=⟨func48,by kernel_rfl⟩
theorem Qz:aq prog 49 f49:=⟨func49,by kernel_rfl⟩
theorem QA:aq prog 50 f50:=⟨func50,by kernel_rfl⟩
theorem QB:aq prog 51 f51:=⟨func51,by kernel_rfl⟩
theorem QC:aq prog 52 f52:=⟨func52,by kernel_rfl⟩
theorem aCW:aq prog 53 f53:=⟨func53,by kernel_rfl⟩
theorem aCX:aq prog 54 f54:=⟨func54,by kernel_rfl⟩
theorem QD:aq prog 55 f55:=⟨func55,by kernel_rfl⟩
theorem QE:aq prog 56 f56:=⟨func56,by kernel_rfl⟩
theorem QF:aq prog 57 f57:=⟨func57,by kernel_rfl⟩
theorem QG:aq prog 58 f58:=⟨func58,by kernel_rfl⟩
theorem QH:aq prog 59 f59:=⟨func59,by kernel_rfl⟩
theorem aC0:aq prog 60 f60:=⟨func60,by kernel_rfl⟩
theorem aC1:aq prog 61 f61:=⟨func61,by kernel_rfl⟩
theorem aC2:aq prog 62 f62:=⟨func62,by kernel_rfl⟩
theorem aC3:aq prog 63 f63:=⟨func63,by kernel_rfl⟩
theorem aC4:aq prog 64 f64:=⟨func64,by kernel_rfl⟩
theorem aC7:aq prog 65 f65:=⟨func65,by kernel_rfl⟩
theorem aC8:aq prog 66 f66:=⟨func66,by kernel_rfl⟩
theorem aDb:aq prog 67 f67:=⟨func67,by kernel_rfl⟩
theorem QI:aq prog 68 f68:=⟨func68,by kernel_rfl⟩
theorem QJ:aq prog 69 f69:=⟨func69,by kernel_rfl⟩
theorem QK:aq prog 70 f70:=⟨func70,by kernel_rfl⟩
theorem QL:aq prog 71 f71:=⟨func71,by kernel_rfl⟩
theorem QM:aq prog 72 f72:=⟨func72,by kernel_rfl⟩
theorem QN:aq prog 73 f73:=⟨func73,by kernel_rfl⟩
theorem QO:aq prog 74 f74:=⟨func74,by kernel_rfl⟩
theorem QP:aq prog 75 f75:=⟨func75,by kernel_rfl⟩
theorem QQ:aq prog 76 f76:=⟨func76,by kernel_rfl⟩
theorem QR:aq prog 77 f77:=⟨func77,by kernel_rfl⟩
theorem QS:aq prog 78 f78:=⟨func78,by kernel_rfl⟩
theorem QT:aq prog 79 f79:=⟨func79,by kernel_rfl⟩
theorem QU:aq prog 80 f80:=⟨func80,by kernel_rfl⟩
theorem QV:aq prog 81 f81:=⟨func81,by kernel_rfl⟩
theorem QW:aq prog 82 f82:=⟨func82,by kernel_rfl⟩
theorem QX:aq prog 83 f83:=⟨func83,by kernel_rfl⟩
theorem QY:aq prog 84 f84:=⟨func84,by kernel_rfl⟩
theorem QZ:aq prog 85 f85:=⟨func85,by kernel_rfl⟩
theorem Q0:aq prog 86 f86:=⟨func86,by kernel_rfl⟩
theorem Q1:aq prog 87 f87:=⟨func87,by kernel_rfl⟩
theorem Q2:aq prog 88 f88:=⟨func88,by kernel_rfl⟩
theorem Q3:aq prog 89 f89:=⟨func89,by kernel_rfl⟩
theorem Q5:aq prog 90 f90:=⟨func90,by kernel_rfl⟩
theorem Q6:aq prog 91 f91:=⟨func91,by kernel_rfl⟩
theorem Q7:aq prog 92 f92:=⟨func92,by kernel_rfl⟩
theorem Q8:aq prog 93 f93:=⟨func93,by kernel_rfl⟩
theorem Q9:aq prog 94 f94:=⟨func94,by kernel_rfl⟩
theorem y7:aq prog 95 f95:=⟨func95,by kernel_rfl⟩
theorem Ra:aq prog 96 f96:=⟨func96,by kernel_rfl⟩
theorem Rb:aq prog 97 f97:=⟨func97,by kernel_rfl⟩
theorem Rc:aq prog 98 f98:=⟨func98,by kernel_rfl⟩
theorem Rd:aq prog 99 f99:=⟨func99,by kernel_rfl⟩
theorem GH:aq prog 100 f100:=⟨func100,by kernel_rfl⟩
theorem GG:aq prog 101 f101:=⟨func101,by kernel_rfl⟩
theorem GF:aq prog 102 f102:=⟨func102,by kernel_rfl⟩
theorem GD:aq prog 103 f103:=⟨func103,by kernel_rfl⟩
theorem O1:aq prog 104 f104:=⟨func104,by kernel_rfl⟩
theorem GC:aq prog 105 f105:=⟨func105,by kernel_rfl⟩
theorem O0:aq prog 106 f106:=⟨func106,by kernel_rfl⟩
theorem GB:aq prog 107 f107:=⟨func107,by kernel_rfl⟩
theorem GA:aq prog 108 f108:=⟨func108,by kernel_rfl⟩
theorem He:aq prog 109 f109:=⟨func109,by kernel_rfl⟩
theorem Hd:aq prog 110 f110:=⟨func110,by kernel_rfl⟩
theorem Hc:aq prog 111 f111:=⟨func111,by kernel_rfl⟩
theorem G9:aq prog 112 f112:=⟨func112,by kernel_rfl⟩
theorem G8:aq prog 113 f113:=⟨func113,by kernel_rfl⟩
theorem G7:aq prog 114 f114:=⟨func114,by kernel_rfl⟩
theorem OZ:aq prog 115 f115:=⟨func115,by kernel_rfl⟩
theorem OY:aq prog 116 f116:=⟨func116,by kernel_rfl⟩
theorem OX:aq prog 117 f117:=⟨func117,by kernel_rfl⟩
theorem Pv:aq prog 118 f118:=⟨func118,by kernel_rfl⟩
theorem OW:aq prog 119 f119:=⟨func119,by kernel_rfl⟩
theorem Pu:aq prog 120 f120:=⟨func120,by kernel_rfl⟩
theorem awD:aq prog 121 f121:=⟨func121,by kernel_rfl⟩
theorem awE:aq prog 122 f122:=⟨func122,by kernel_rfl⟩
theorem aw0:aq prog 123 f123:=⟨func123,by kernel_rfl⟩
theorem H7:aq prog 124 f124:=⟨func124,by kernel_rfl⟩
theorem aw2:aq prog 125 f125:=⟨func125,by kernel_rfl⟩
theorem axn:aq prog 126 f126:=⟨func126,by kernel_rfl⟩
theorem H6:aq prog 127 f127:=⟨func127,by kernel_rfl⟩
theorem IG:aq prog 128 f128:=⟨func128,by kernel_rfl⟩
theorem H5:aq prog 129 f129:=⟨func129,by kernel_rfl⟩
theorem H4:aq prog 130 f130:=⟨func130,by kernel_rfl⟩
theorem B9:aq prog 131 f131:=⟨func131,by kernel_rfl⟩
theorem H3:aq prog 132 f132:=⟨func132,by kernel_rfl⟩
theorem HZ:aq prog 133 f133:=⟨func133,by kernel_rfl⟩
theorem HY:aq prog 134 f134:=⟨func134,by kernel_rfl⟩
theorem Hp:aq prog 135 f135:=⟨func135,by kernel_rfl⟩
theorem axo:aq prog 136 f136:=⟨func136,by kernel_rfl⟩
theorem axp:aq prog 137 f137:=⟨func137,by kernel_rfl⟩
theorem axq:aq prog 138 f138:=⟨func138,by kernel_rfl⟩
theorem axr:aq prog 139 f139:=⟨func139,by kernel_rfl⟩
theorem axs:aq prog 140 f140:=⟨func140,by kernel_rfl⟩
theorem axt:aq prog 141 f141:=⟨func141,by kernel_rfl⟩
theorem axu:aq prog 142 f142:=⟨func142,by kernel_rfl⟩
theorem axw:aq prog 143 f143:=⟨func143,by kernel_rfl⟩
theorem axy:aq prog 144 f144:=⟨func144,by kernel_rfl⟩
theorem axz:aq prog 145 f145:=⟨func145,by kernel_rfl⟩
theorem axA:aq prog 146 f146:=⟨func146,by kernel_rfl⟩
theorem axB:aq prog 147 f147:=⟨func147,by kernel_rfl⟩
theorem axC:aq prog 148 f148:=⟨func148,by kernel_rfl⟩
theorem axD:aq prog 149 f149:=⟨func149,by kernel_rfl⟩
theorem axE:aq prog 150 f150:=⟨func150,by kernel_rfl⟩
theorem EP:aq prog 151 f151:=⟨func151,by kernel_rfl⟩
theorem axF:aq prog 152 f152:=⟨func152,by kernel_rfl⟩
theorem axG:aq prog 153 f153:=⟨func153,by kernel_rfl⟩
theorem axH:aq prog 154 f154:=⟨func154,by kernel_rfl⟩
theorem axI:aq prog 155 f155:=⟨func155,by kernel_rfl⟩
theorem axJ:aq prog 156 f156:=⟨func156,by kernel_rfl⟩
theorem axK:aq prog 157 f157:=⟨func157,by kernel_rfl⟩
theorem Ho:aq prog 158 f158:=⟨func158,by kernel_rfl⟩
theorem Hn:aq prog 159 f159:=⟨func159,by kernel_rfl⟩
theorem Hm:aq prog 160 f160:=⟨func160,by kernel_rfl⟩
theorem Hl:aq prog 161 f161:=⟨func161,by kernel_rfl⟩
theorem ET:aq prog 162 f162:=⟨func162,by kernel_rfl⟩
theorem Ps:aq prog 163 f163:=⟨func163,by kernel_rfl⟩
theorem Pr:aq prog 164 f164:=⟨func164,by kernel_rfl⟩
theorem Pq:aq prog 165 f165:=⟨func165,by kernel_rfl⟩
theorem Pp:aq prog 166 f166:=⟨func166,by kernel_rfl⟩
theorem Po:aq prog 167 f167:=⟨func167,by kernel_rfl⟩
theorem Pn:aq prog 168 f168:=⟨func168,by kernel_rfl⟩
theorem Pm:aq prog 169 f169:=⟨func169,by kernel_rfl⟩
theorem Pk:aq prog 170 f170:=⟨func170,by kernel_rfl⟩
theorem Pj:aq prog 171 f171:=⟨func171,by kernel_rfl⟩
theorem ES:aq prog 172 f172:=⟨func172,by kernel_rfl⟩
theorem Ph:aq prog 173 f173:=⟨func173,by kernel_rfl⟩
theorem Pg:aq prog 174 f174:=⟨func174,by kernel_rfl⟩
theorem G6:aq prog 175 f175:=⟨func175,by kernel_rfl⟩
theorem G5:aq prog 176 f176:=⟨func176,by kernel_rfl⟩
theorem G4:aq prog 177 f177:=⟨func177,by kernel_rfl⟩
theorem G3:aq prog 178 f178:=⟨func178,by kernel_rfl⟩
theorem G2:aq prog 179 f179:=⟨func179,by kernel_rfl⟩
theorem G1:aq prog 180 f180:=⟨func180,by kernel_rfl⟩
theorem G0:aq prog 181 f181:=⟨func181,by kernel_rfl⟩
theorem GZ:aq prog 182 f182:=⟨func182,by kernel_rfl⟩
theorem GY:aq prog 183 f183:=⟨func183,by kernel_rfl⟩
theorem GX:aq prog 184 f184:=⟨func184,by kernel_rfl⟩
theorem GW:aq prog 185 f185:=⟨func185,by kernel_rfl⟩
theorem GV:aq prog 186 f186:=⟨func186,by kernel_rfl⟩
theorem GU:aq prog 187 f187:=⟨func187,by kernel_rfl⟩
theorem GS:aq prog 188 f188:=⟨func188,by kernel_rfl⟩
theorem GR:aq prog 189 f189:=⟨func189,by kernel_rfl⟩
theorem Pf:aq prog 190 f190:=⟨func190,by kernel_rfl⟩
theorem GQ:aq prog 191 f191:=⟨func191,by kernel_rfl⟩
theorem Pe:aq prog 192 f192:=⟨func192,by kernel_rfl⟩
theorem GP:aq prog 193 f193:=⟨func193,by kernel_rfl⟩
theorem GO:aq prog 194 f194:=⟨func194,by kernel_rfl⟩
theorem GN:aq prog 195 f195:=⟨func195,by kernel_rfl⟩
theorem GM:aq prog 196 f196:=⟨func196,by kernel_rfl⟩
theorem Pd:aq prog 197 f197:=⟨func197,by kernel_rfl⟩
theorem ER:aq prog 198 f198:=⟨func198,by kernel_rfl⟩
theorem IA:aq prog 199 f199:=⟨func199,by kernel_rfl⟩
theorem IF:aq prog 200 f200:=⟨func200,by kernel_rfl⟩
theorem Hj:aq prog 201 f201:=⟨func201,by kernel_rfl⟩
theorem axN:aq prog 202 f202:=⟨func202,by kernel_rfl⟩
theorem axO:aq prog 203 f203:=⟨func203,by kernel_rfl⟩
theorem axP:aq prog 204 f204:=⟨func204,by kernel_rfl⟩
theorem axR:aq prog 205 f205:=⟨func205,by kernel_rfl⟩
theorem Hx:aq prog 206 f206:=⟨func206,by kernel_rfl⟩
theorem Hw:aq prog 207 f207:=⟨func207,by kernel_rfl⟩
theorem axS:aq prog 208 f208:=⟨func208,by kernel_rfl⟩
theorem Gt:aq prog 209 f209:=⟨func209,by kernel_rfl⟩
theorem BV:aq prog 210 f210:=⟨func210,by kernel_rfl⟩
theorem Gs:aq prog 211 f211:=⟨func211,by kernel_rfl⟩
theorem B4:aq prog 212 f212:=⟨func212,by kernel_rfl⟩
theorem Hv:aq prog 213 f213:=⟨func213,by kernel_rfl⟩
theorem Hu:aq prog 214 f214:=⟨func214,by kernel_rfl⟩
theorem axU:aq prog 215 f215:=⟨func215,by kernel_rfl⟩
theorem axW:aq prog 216 f216:=⟨func216,by kernel_rfl⟩
theorem axX:aq prog 217 f217:=⟨func217,by kernel_rfl⟩
theorem ax2:aq prog 218 f218:=⟨func218,by kernel_rfl⟩
theorem aya:aq prog 219 f219:=⟨func219,by kernel_rfl⟩
theorem ayb:aq prog 220 f220:=⟨func220,by kernel_rfl⟩
theorem ayc:aq prog 221 f221:=⟨func221,by kernel_rfl⟩
theorem ayd:aq prog 222 f222:=⟨func222,by kernel_rfl⟩
theorem aye:aq prog 223 f223:=⟨func223,by kernel_rfl⟩
theorem ayf:aq prog 224 f224:=⟨func224,by kernel_rfl⟩
theorem ayg:aq prog 225 f225:=⟨func225,by kernel_rfl⟩
theorem ayh:aq prog 226 f226:=⟨func226,by kernel_rfl⟩
theorem ayA:aq prog 227 f227:=⟨func227,by kernel_rfl⟩
theorem ayC:aq prog 228 f228:=⟨func228,by kernel_rfl⟩
theorem Pc:aq prog 229 f229:=⟨func229,by kernel_rfl⟩
theorem ayD:aq prog 230 f230:=⟨func230,by kernel_rfl⟩
theorem ayE:aq prog 231 f231:=⟨func231,by kernel_rfl⟩
theorem ayF:aq prog 232 f232:=⟨func232,by kernel_rfl⟩
theorem ayG:aq prog 233 f233:=⟨func233,by kernel_rfl⟩
theorem ayT:aq prog 234 f234:=⟨func234,by kernel_rfl⟩
theorem ayU:aq prog 235 f235:=⟨func235,by kernel_rfl⟩
theorem ayV:aq prog 236 f236:=⟨func236,by kernel_rfl⟩
theorem ay5:aq prog 237 f237:=⟨func237,by kernel_rfl⟩
theorem On:aq prog 238 f238:=⟨func238,by kernel_rfl⟩
theorem yl:aq prog 239 f239:=⟨func239,by kernel_rfl⟩
theorem Om:aq prog 240 f240:=⟨func240,by kernel_rfl⟩
theorem Gr:aq prog 241 f241:=⟨func241,by kernel_rfl⟩
theorem Ht:aq prog 242 f242:=⟨func242,by kernel_rfl⟩
theorem yR:aq prog 243 f243:=⟨func243,by kernel_rfl⟩
theorem Hr:aq prog 244 f244:=⟨func244,by kernel_rfl⟩
theorem Ol:aq prog 245 f245:=⟨func245,by kernel_rfl⟩
theorem azj:aq prog 246 f246:=⟨func246,by kernel_rfl⟩
theorem Ok:aq prog 247 f247:=⟨func247,by kernel_rfl⟩
theorem Nz:aq prog 248 f248:=⟨func248,by kernel_rfl⟩
theorem Oj:aq prog 249 f249:=⟨func249,by kernel_rfl⟩
theorem EO:aq prog 250 f250:=⟨func250,by kernel_rfl⟩
theorem azk:aq prog 251 f251:=⟨func251,by kernel_rfl⟩
theorem Hq:aq prog 252 f252:=⟨func252,by kernel_rfl⟩
theorem Oi:aq prog 253 f253:=⟨func253,by kernel_rfl⟩
theorem Oh:aq prog 254 f254:=⟨func254,by kernel_rfl⟩
theorem Kg:aq prog 255 f255:=⟨func255,by kernel_rfl⟩
theorem Ow:aq prog 256 f256:=⟨func256,by kernel_rfl⟩
theorem Ov:aq prog 257 f257:=⟨func257,by kernel_rfl⟩
theorem azl:aq prog 258 f258:=⟨func258,by kernel_rfl⟩
theorem azm:aq prog 259 f259:=⟨func259,by kernel_rfl⟩
theorem azo:aq prog 260 f260:=⟨func260,by kernel_rfl⟩
theorem Gc:aq prog 261 f261:=⟨func261,by kernel_rfl⟩
theorem Gq:aq prog 262 f262:=⟨func262,by kernel_rfl⟩
theorem Ou:aq prog 263 f263:=⟨func263,by kernel_rfl⟩
theorem Gp:aq prog 264 f264:=⟨func264,by kernel_rfl⟩
theorem Gn:aq prog 265 f265:=⟨func265,by kernel_rfl⟩
theorem Gm:aq prog 266 f266:=⟨func266,by kernel_rfl⟩
theorem Gk:aq prog 267 f267:=⟨func267,by kernel_rfl⟩
theorem Gx:aq prog 268 f268:=⟨func268,by kernel_rfl⟩
theorem Gw:aq prog 269 f269:=⟨func269,by kernel_rfl⟩
theorem Gv:aq prog 270 f270:=⟨func270,by kernel_rfl⟩
theorem Ny:aq prog 271 f271:=⟨func271,by kernel_rfl⟩
theorem azp:aq prog 272 f272:=⟨func272,by kernel_rfl⟩
theorem azq:aq prog 273 f273:=⟨func273,by kernel_rfl⟩
theorem azr:aq prog 274 f274:=⟨func274,by kernel_rfl⟩
theorem azs:aq prog 275 f275:=⟨func275,by kernel_rfl⟩
theorem azt:aq prog 276 f276:=⟨func276,by kernel_rfl⟩
theorem azu:aq prog 277 f277:=⟨func277,by kernel_rfl⟩
theorem azv:aq prog 279 f279:=⟨func279,by kernel_rfl⟩
theorem azw:aq prog 280 f280:=⟨func280,by kernel_rfl⟩
theorem azx:aq prog 281 f281:=⟨func281,by kernel_rfl⟩
theorem azy:aq prog 282 f282:=⟨func282,by kernel_rfl⟩
theorem azz:aq prog 283 f283:=⟨func283,by kernel_rfl⟩
theorem azA:aq prog 284 f284:=⟨func284,by kernel_rfl⟩
theorem HF:aq prog 286 f286:=⟨func286,by kernel_rfl⟩
theorem HE:aq prog 288 f288:=⟨func288,by kernel_rfl⟩
theorem HC:aq prog 289 f289:=⟨func289,by kernel_rfl⟩
theorem HB:aq prog 290 f290:=⟨func290,by kernel_rfl⟩
theorem HA:aq prog 291 f291:=⟨func291,by kernel_rfl⟩
theorem Ot:aq prog 292 f292:=⟨func292,by kernel_rfl⟩
theorem azB:aq prog 293 f293:=⟨func293,by kernel_rfl⟩
theorem azC:aq prog 294 f294:=⟨func294,by kernel_rfl⟩
theorem Oq:aq prog 295 f295:=⟨func295,by kernel_rfl⟩
theorem azD:aq prog 296 f296:=⟨func296,by kernel_rfl⟩
theorem azE:aq prog 297 f297:=⟨func297,by kernel_rfl⟩
theorem azF:aq prog 298 f298:=⟨func298,by kernel_rfl⟩
theorem azG:aq prog 299 f299:=⟨func299,by kernel_rfl⟩
theorem azH:aq prog 300 f300:=⟨func300,by kernel_rfl⟩
theorem Hz:aq prog 301 f301:=⟨func301,by kernel_rfl⟩
theorem Oo:aq prog 302 f302:=⟨func302,by kernel_rfl⟩
theorem azI:aq prog 303 f303:=⟨func303,by kernel_rfl⟩
theorem azJ:aq prog 304 f304:=⟨func304,by kernel_rfl⟩
theorem azK:aq prog 305 f305:=⟨func305,by kernel_rfl⟩
theorem azL:aq prog 306 f306:=⟨func306,by kernel_rfl⟩
theorem azM:aq prog 307 f307:=⟨func307,by kernel_rfl⟩
theorem azO:aq prog 308 f308:=⟨func308,by kernel_rfl⟩
theorem azP:aq prog 309 f309:=⟨func309,by kernel_rfl⟩
theorem azQ:aq prog 310 f310:=⟨func310,by kernel_rfl⟩
theorem azR:aq prog 311 f311:=⟨func311,by kernel_rfl⟩
theorem azS:aq prog 312 f312:=⟨func312,by kernel_rfl⟩
theorem azV:aq prog 313 f313:=⟨func313,by kernel_rfl⟩
theorem azW:aq prog 314 f314:=⟨func314,by kernel_rfl⟩
theorem azX:aq prog 315 f315:=⟨func315,by kernel_rfl⟩
theorem azY:aq prog 316 f316:=⟨func316,by kernel_rfl⟩
theorem azZ:aq prog 317 f317:=⟨func317,by kernel_rfl⟩
theorem az0:aq prog 318 f318:=⟨func318,by kernel_rfl⟩
theorem az1:aq prog 319 f319:=⟨func319,by kernel_rfl⟩
theorem az2:aq prog 320 f320:=⟨func320,by kernel_rfl⟩
theorem az3:aq prog 322 f322:=⟨func322,by kernel_rfl⟩
theorem az4:aq prog 323 f323:=⟨func323,by kernel_rfl⟩
theorem az5:aq prog 324 f324:=⟨func324,by kernel_rfl⟩
theorem az7:aq prog 325 f325:=⟨func325,by kernel_rfl⟩
theorem az8:aq prog 326 f326:=⟨func326,by kernel_rfl⟩
theorem az9:aq prog 327 f327:=⟨func327,by kernel_rfl⟩
theorem aAa:aq prog 328 f328:=⟨func328,by kernel_rfl⟩
theorem aAc:aq prog 329 f329:=⟨func329,by kernel_rfl⟩
theorem OM:aq prog 330 f330:=⟨func330,by kernel_rfl⟩
theorem aAe:aq prog 331 f331:=⟨func331,by kernel_rfl⟩
theorem OL:aq prog 332 f332:=⟨func332,by kernel_rfl⟩
theorem Hy:aq prog 333 f333:=⟨func333,by kernel_rfl⟩
theorem aAf:aq prog 334 f334:=⟨func334,by kernel_rfl⟩
theorem aAg:aq prog 335 f335:=⟨func335,by kernel_rfl⟩
theorem aAh:aq prog 336 f336:=⟨func336,by kernel_rfl⟩
theorem aAi:aq prog 337 f337:=⟨func337,by kernel_rfl⟩
theorem aAj:aq prog 338 f338:=⟨func338,by kernel_rfl⟩
theorem Io:aq prog 339 f339:=⟨func339,by kernel_rfl⟩
theorem Im:aq prog 340 f340:=⟨func340,by kernel_rfl⟩
theorem aAm:aq prog 341 f341:=⟨func341,by kernel_rfl⟩
theorem aAn:aq prog 342 f342:=⟨func342,by kernel_rfl⟩
theorem aAo:aq prog 343 f343:=⟨func343,by kernel_rfl⟩
theorem aAq:aq prog 345 f345:=⟨func345,by kernel_rfl⟩
theorem aAr:aq prog 346 f346:=⟨func346,by kernel_rfl⟩
theorem aAs:aq prog 347 f347:=⟨func347,by kernel_rfl⟩
theorem aAt:aq prog 348 f348:=⟨func348,by kernel_rfl⟩
theorem aAu:aq prog 349 f349:=⟨func349,by kernel_rfl⟩
theorem aAx:aq prog 350 f350:=⟨func350,by kernel_rfl⟩
theorem aAy:aq prog 351 f351:=⟨func351,by kernel_rfl⟩
theorem HK:aq prog 352 f352:=⟨func352,by kernel_rfl⟩
theorem aAB:aq prog 353 f353:=⟨func353,by kernel_rfl⟩
theorem aAC:aq prog 354 f354:=⟨func354,by kernel_rfl⟩
theorem aAD:aq prog 355 f355:=⟨func355,by kernel_rfl⟩
theorem aAE:aq prog 356 f356:=⟨func356,by kernel_rfl⟩
theorem aAF:aq prog 357 f357:=⟨func357,by kernel_rfl⟩
theorem aAG:aq prog 358 f358:=⟨func358,by kernel_rfl⟩
theorem aAH:aq prog 359 f359:=⟨func359,by kernel_rfl⟩
theorem aAI:aq prog 360 f360:=⟨func360,by kernel_rfl⟩
theorem aAJ:aq prog 362 f362:=⟨func362,by kernel_rfl⟩
theorem aAO:aq prog 363 f363:=⟨func363,by kernel_rfl⟩
theorem aAV:aq prog 364 f364:=⟨func364,by kernel_rfl⟩
theorem aAW:aq prog 365 f365:=⟨func365,by kernel_rfl⟩
theorem aA1:aq prog 366 f366:=⟨func366,by kernel_rfl⟩
theorem aBg:aq prog 367 f367:=⟨func367,by kernel_rfl⟩
theorem aBh:aq prog 369 f369:=⟨func369,by kernel_rfl⟩
theorem HJ:aq prog 370 f370:=⟨func370,by kernel_rfl⟩
theorem aBz:aq prog 371 f371:=⟨func371,by kernel_rfl⟩
theorem aBF:aq prog 372 f372:=⟨func372,by kernel_rfl⟩
theorem aBL:aq prog 374 f374:=⟨func374,by kernel_rfl⟩
theorem aBP:aq prog 375 f375:=⟨func375,by kernel_rfl⟩
theorem aBT:aq prog 376 f376:=⟨func376,by kernel_rfl⟩
theorem aBV:aq prog 377 f377:=⟨func377,by kernel_rfl⟩
theorem aBX:aq prog 378 f378:=⟨func378,by kernel_rfl⟩
theorem aBY:aq prog 379 f379:=⟨func379,by kernel_rfl⟩
theorem aB7:aq prog 380 f380:=⟨func380,by kernel_rfl⟩
theorem aB9:aq prog 381 f381:=⟨func381,by kernel_rfl⟩
theorem aCa:aq prog 382 f382:=⟨func382,by kernel_rfl⟩
theorem aCl:aq prog 383 f383:=⟨func383,by kernel_rfl⟩
theorem aCn:aq prog 384 f384:=⟨func384,by kernel_rfl⟩
theorem aCp:aq prog 385 f385:=⟨func385,by kernel_rfl⟩
theorem aCq:aq prog 386 f386:=⟨func386,by kernel_rfl⟩
theorem aCr:aq prog 387 f387:=⟨func387,by kernel_rfl⟩
theorem aCs:aq prog 388 f388:=⟨func388,by kernel_rfl⟩
theorem aCD:aq prog 420 f420:=⟨func420,by kernel_rfl⟩
set_option maxHeartbeats 4000000
set_option maxRecDepth 100000
def wB:Nat:=18446744073709551616
theorem rV(x y c:Nat)(hc:c<=1):aA prog 285 [.int .u64 x,.int .u64 y,.int .u64 c] (.aE [.int .u64 ((x+y+c)% wB:Nat),.int .u64 ((x+y+c)/wB:Nat)]):=by
 refine .inr fun w ad a h=>?_;simp only[bw,aC]at h;obtain⟨_,_,rfl,rfl,_,_,rfl,rfl,_,_,rfl,rfl,rfl⟩:=h;refine⟨.tuple #[.int .u64 ((x+y+c)% wB:Nat),.int .u64 ((x+y+c)/wB:Nat)],?_,?_⟩
 ·show(callFunc 285 #[.int .u64 x,.int .u64 y,.int .u64 c]).run prog w=_;rw[ax func285 (by kernel_rfl) (by kernel_rfl) (by kernel_rfl) (e:=add64Entry) (by kernel_rfl),run_add64 x y c (by omega) (by omega) (by omega) (by omega)];simp only[Result.andThen,wB];congr 5<;>omega
 ·simp only[aC,bw];exact⟨[.int .u64 ((x+y+c)% wB:Nat),.int .u64 ((x+y+c)/wB:Nat)],⟨_,_,rfl,rfl,_,_,rfl,rfl,rfl⟩,rfl⟩
theorem Zp(x y c:Nat)(hc:c<=1):aA prog 287 [.int .u64 x,.int .u64 y,.int .u64 c] (.aE [.int .u64 ((x+wB-y-c)% wB:Nat),.int .u64 ((if x<y+c then 1 else 0:Nat):Int)]):=by
 refine .inr fun w ad a h=>?_;simp only[bw,aC]at h;obtain⟨_,_,rfl,rfl,_,_,rfl,rfl,_,_,rfl,rfl,rfl⟩:=h;refine⟨.tuple #[.int .u64 ((x+wB-y-c)% wB:Nat),.int .u64 ((if x<y+c then 1 else 0:Nat):Int)],?_,?_⟩
 ·show(callFunc 287 #[.int .u64 x,.int .u64 y,.int .u64 c]).run prog w=_;rw[ax func287 (by kernel_rfl) (by kernel_rfl) (by kernel_rfl) (e:=sub64Entry) (by kernel_rfl),run_sub64 x y c hc];rfl
 ·simp only[aC,bw];exact⟨[.int .u64 ((x+wB-y-c)% wB:Nat),.int .u64 ((if x<y+c then 1 else 0:Nat):Int)],⟨_,_,rfl,rfl,_,_,rfl,rfl,rfl⟩,rfl⟩
def ny(B:Nat):Nat->Nat->List Nat
 |0,_=>[]
 |f+1,n=>if n=0 then[]else n% B::ny B f (n/B)
def au(B n:Nat):List Nat:=ny B (n+1) n
def iI(B:Nat):List Nat->Nat
 |[]=>0
 |d::l=>d+B*iI B l
def ae(B n i:Nat):Nat:=n/B^i% B
section
variable{B:Nat}
theorem JB(a:2<=B):∀(f g n:Nat),n<f->n<g->ny B f n=ny B g n
 |0,_,_,h,_=>by omega
 |_,0,_,_,h=>by omega
 |f+1,g+1,n,b,c=>by
  simp only[ny]
  split
  ·rfl
  ·rename_i d;have:n/B<n:=e8 (by omega) (by omega);rw[JB a f g (n/B) (by omega) (by omega)]
theorem mQ:au B 0=[]:=by simp[au,ny]
theorem uE(a:2<=B){n:Nat}(h:n≠0):au B n=n% B::au B (n/B):=by
 have:n/B<n:=e8 (by omega) (by omega);rw[au,ny,if_neg h,au,JB a n (n/B+1) (n/B) this (by omega)]
theorem Ln(a:2<=B)(n:Nat):iI B (au B n)=n:=by
 induction n using gx with
 |ind n b=>
  by_cases h:n=0
  ·subst h;simp[mQ,iI]
  ·rw[uE a h,iI,b _ (e8 (by omega) (by omega))];exact dk n B
theorem aeK(a:2<=B):∀(i n:Nat),(au B n)[i]?.getD 0=ae B n i
 |i,n=>by
  induction i generalizing n with
  |zero=>
   by_cases h:n=0
   ·subst h;simp[mQ,ae]
   ·rw[uE a h];simp[ae]
  |succ i b=>
   by_cases h:n=0
   ·subst h;simp[mQ,ae]
   ·rw[uE a h,List.getElem?_cons_succ,b];simp only[ae,cv,cy];rw[ce B]
theorem eD(a:2<=B){n i:Nat}(h:i<(au B n).length):(au B n)[i]=ae B n i:=by
 have:=aeK a i n;rw[List.getElem?_eq_getElem h]at this;exact this
theorem cq(b:2<=B)(n:Nat):n<B^(au B n).length:=by
 induction n using gx with
 |ind n c=>
  by_cases h:n=0
  ·subst h;simp[mQ]
  ·rw[uE b h,b2,cy];have:=c _ (e8 (n:=n) (k:=B) (by omega) (by omega));have d:=dk n B;have e:=dp n (show 0<B by omega);have a:(n/B+1)*B<=B^(au B (n/B)).length*B:=c9 B this;rw[eb,ce (n/B) B]at a;omega
theorem dQ(b:2<=B):∀(k n:Nat),n<B^k->(au B n).length<=k
 |0,n,h=>by
  have:n=0:=by simpa using h
  subst this;simp[mQ]
 |k+1,n,h=>by
  by_cases a:n=0
  ·subst a;simp[mQ]
  ·rw[uE b a,b2];have:=dQ b k (n/B) (by
    rw[ck (by omega),<-cy];exact h)
   omega
theorem Ka(a:2<=B){k n:Nat}(h:B^k<=n):k<(au B n).length:=by
 have:=cq a n;exact(Nat.pow_lt_pow_iff_right (by omega:1<B)).1 (ed h this)
def eA:List Nat->List Nat
 |[]=>[]
 |d::l=>match eA l with
  |[]=>if d=0 then[]else[d]
  |t=>d::t
theorem DX(a:2<=B):∀{l:List Nat},(∀d∈l,d<B)->au B (iI B l)=eA l
 |[],_=>by simp[iI,mQ,eA]
 |d::l,h=>by
  have c:=DX a (l:=l) fun x hx=>h x (List.mem_cons_of_mem _ hx);have f:=h d List.mem_cons_self;simp only[eA,iI]
  by_cases b:d+B*iI B l=0
  ·have k:d=0:=by omega
   have m:iI B l=0:=by
    rcases Nat.mul_eq_zero.1 (show B*iI B l=0 by omega)with e|e
    ·omega
    ·exact e
   rw[b,mQ,<-c,m,mQ];simp[k]
  ·rw[uE a b];have e1:(d+B*iI B l)% B=d:=by rw[eq,cx f]
   have e2:(d+B*iI B l)/B=iI B l:=by
    rw[db _ _ (by omega),da f,g3]
   rw[e1,e2,c]
   split
   ·rename_i g;have i:=c;rw[g,j a]at i;rw[if_neg (by rw[i]at b;simpa using b),g]
   ·rfl
where j (a:2<=B) {n:Nat}:(au B n=[])=(n=0):=by
        apply propext;constructor
        ·intro h;rw[<-Ln a n,h];rfl
        ·rintro rfl;exact mQ
def row(B m n:Nat):List Nat:=(a6 m).map (ae B n)
theorem M9{m n:Nat}:(row B m n).length=m:=by simp[row]
theorem X4(m n:Nat):row B (m+1) n=n% B::row B m (n/B):=by
 rw[row,List.range_succ_eq_map,bi,bk];congr 1
 ·simp[ae]
 ·rw[row];apply bl;intro i _;simp only[Function.comp,ae,cv,cy];rw[ce]
theorem M8(a:2<=B):∀(m n:Nat),iI B (row B m n)=n% B^m
 |0,n=>by simp[row,iI,e6]
 |m+1,n=>by
  rw[X4,iI,M8 a m,cy,ce (B^m),fZ]
theorem jv(a:2<=B){m n:Nat}(h:n<B^m):eA (row B m n)=au B n:=by
 rw[<-DX a (l:=row B m n),M8 a,cx h];intro d b;simp only[row,be]at b;obtain⟨i,_,rfl⟩:=b;exact dp _ (by omega)
theorem aeQ(b:2<=B)(n:Nat):au B n=row B (au B n).length n:=by
 apply a7 (by simp[row]);intro i a c;rw[eD b a];simp[row]
end
section
variable{B:Nat}
theorem mod_pow_succ(n i:Nat):n% B^(i+1)=n% B^i+B^i*ae B n i:=by
 rw[cy,fZ,ae]
def dh(B a b i:Nat):Nat:=(a% B^i+b% B^i)/B^i
theorem zn(a b:Nat):dh B a b 0=0:=by simp[dh,e6]
theorem l9(f:2<=B)(a b i:Nat):dh B a b i<=1:=by
 have c:0<B^i:=c6 (by omega);have d:=dp a c;have e:=dp b c;rw[dh];have:(a% B^i+b% B^i)/B^i<2:=by rw[ck c];omega
 omega
theorem rC(e:2<=B)(a b i:Nat):(ae B a i+ae B b i+dh B a b i)% B=ae B (a+b) i/\(ae B a i+ae B b i+dh B a b i)/B=dh B a b (i+1):=by
 have c:0<B^i:=c6 (by omega);constructor
 ·have d:(a+b)/B^i=dh B a b i+(a/B^i+b/B^i):=by
   rw[dh]
   conv=>lhs;rw[<-dk a (B^i),<-dk b (B^i)]
   rw[show a% B^i+B^i*(a/B^i)+(b% B^i+B^i*(b/B^i))=(a% B^i+b% B^i)+B^i*(a/B^i+b/B^i)by rw[ea];omega];rw[db _ _ c]
  rw[ae,ae,ae,d,fm,<-fm (a/B^i),<-fm,e7]
 ·conv=>rhs;rw[dh,mod_pow_succ,mod_pow_succ,cy,<-cv]
  rw[show a% B^i+B^i*ae B a i+(b% B^i+B^i*ae B b i)=(a% B^i+b% B^i)+B^i*(ae B a i+ae B b i)by rw[ea];omega];rw[db _ _ c,dh,e7 ((a% B^i+b% B^i)/B^i)]
theorem jt{n i:Nat}(h:n<B^i):ae B n i=0:=by
 rw[ae,da h,Nat.zero_mod]
theorem cr(a:2<=B)(n i:Nat):ae B n i<B:=dp _ (by omega)
def fp(B a b i:Nat):Nat:=if a% B^i<b% B^i then 1 else 0
theorem Cy(a b:Nat):fp B a b 0=0:=by simp[fp,e6]
theorem Lu(d:2<=B){a b:Nat}(k:b<=a)(i:Nat):
 (ae B a i<ae B b i+fp B a b i/\fp B a b (i+1)=1/\ae B a i+B=ae B (a-b) i+(ae B b i+fp B a b i))\/
 (ae B b i+fp B a b i<=ae B a i/\fp B a b (i+1)=0/\ae B a i=ae B (a-b) i+(ae B b i+fp B a b i)):=by
 have g:0<B^i:=c6 (by omega);obtain⟨c,rfl⟩:=Nat.le.dest k;have j:=rC d b c i;rw[show b+c-b=c by omega];have hc:∀i,fp B (b+c) b i=dh B b c i:=by
  intro i;have g:0<B^i:=c6 (by omega);have l:=dp b g;have m:=dp c g;rw[fp,dh,fm]
  by_cases h:b% B^i+c% B^i<B^i
  ·rw[cx h,da h,if_neg (Nat.not_lt.2 (Nat.le_add_right _ _))]
  ·have e1:(b% B^i+c% B^i)/B^i=1:=by
    rw[show b% B^i+c% B^i=(b% B^i+c% B^i-B^i)+B^i*1 by omega,db _ _ g,da (by omega)]
   have e2:(b% B^i+c% B^i)% B^i=b% B^i+c% B^i-B^i:=by
    rw[Nat.mod_eq_sub_mod (by omega),cx (by omega)]
   rw[e1,e2,if_pos (by omega)]
 rw[hc,hc];have n:=cr d b i;have o:=cr d c i;have p:=l9 d b c i;have f:=dk (ae B b i+ae B c i+dh B b c i) B;rw[j.1,j.2]at f;have q:=l9 d b c (i+1);have r:=cr d (b+c) i;rcases(show dh B b c (i+1)=0\/dh B b c (i+1)=1 by omega)with e|e
 ·right;rw[e]at f⊢;simp at f;exact⟨by omega,rfl,by omega⟩
 ·left;rw[e]at f⊢;simp at f;exact⟨by omega,rfl,by omega⟩
def iH(B a b i j:Nat):Nat:=(a% B^i)*b+ae B a i*(b% B^j)*B^i
def dj(B a b i j k:Nat):Nat:=if k<i+j then ae B (iH B a b i j) k else ae B ((a% B^i)*b) k
def mulC(B a b i j:Nat):Nat:=iH B a b i j/B^(i+j)-(a% B^i)*b/B^(i+j)
theorem aDW(a b i j:Nat):(a% B^i)*b<=iH B a b i j:=by rw[iH];omega
theorem Ks(a b i:Nat):iH B a b i 0=(a% B^i)*b:=by simp[iH,e6]
theorem CS(a b i:Nat):mulC B a b i 0=0:=by simp[mulC,Ks]
theorem Ku(a b i j:Nat):iH B a b i (j+1)=iH B a b i j+ae B a i*ae B b j*B^(i+j):=by
 rw[iH,iH,mod_pow_succ,ea,eb,ew];have:ae B a i*(B^j*ae B b j)*B^i=ae B a i*ae B b j*(B^i*B^j):=by
  rw[ce (B^j),<-dg,dg,ce (B^j)]
 omega
theorem Mc(a b i:Nat){n:Nat}(h:b<B^n):iH B a b i n=(a% B^(i+1))*b:=by
 rw[iH,cx h,mod_pow_succ,eb];congr 1;rw[ge,ce (ae B a i)]
theorem za(n k:Nat):n/B^(k+1)=n/B^k/B:=by rw[cy,cv]
theorem Dy(g:2<=B)(a b i j:Nat):
 (ae B a i*ae B b j+dj B a b i j (i+j)+mulC B a b i j)% B=ae B (iH B a b i (j+1)) (i+j)/\
 (ae B a i*ae B b j+dj B a b i j (i+j)+mulC B a b i j)/B=mulC B a b i (j+1):=by
 have f:0<B^(i+j):=c6 (by omega);have d:iH B a b i (j+1)/B^(i+j)=iH B a b i j/B^(i+j)+ae B a i*ae B b j:=by
  rw[Ku,ee _ _ f]
 have h:(a% B^i)*b/B^(i+j)<=iH B a b i j/B^(i+j):=fa (aDW a b i j);have c:dj B a b i j (i+j)=(a% B^i)*b/B^(i+j)% B:=by rw[dj,if_neg (by omega),ae]
 have e:ae B a i*ae B b j+dj B a b i j (i+j)+mulC B a b i j+B*((a% B^i)*b/B^(i+j)/B)=iH B a b i (j+1)/B^(i+j):=by
  rw[d,c,mulC];have:=dk ((a% B^i)*b/B^(i+j)) B;omega
 constructor
 ·conv=>rhs;rw[ae,<-e]
  rw[eq]
 ·conv=>rhs;rw[mulC,show i+(j+1)=i+j+1 from rfl,za,za,<-e,db _ _ (by omega)]
  rw[gi]
theorem Kv(f:2<=B){a b i j k:Nat}(hk:k≠i+j):dj B a b i (j+1) k=dj B a b i j k:=by
 rw[dj,dj]
 by_cases h:k<i+j
 ·rw[if_pos (by omega),if_pos h,Ku];have e:0<B^k:=c6 (by omega);obtain⟨d,c⟩:∃d,i+j=k+1+d:=⟨i+j-(k+1),by
   have:k+1<=i+j:=h;rw[Nat.add_sub_cancel' this]⟩
  rw[c,ew,cy];generalize ae B a i*ae B b j=x;rw[ae,ae,show x*(B^k*B*B^d)=x*B^d*B*B^k by simp only[dg,ce,gj]];rw[ee _ _ e,eo]
 ·rw[if_neg (by omega),if_neg h]
theorem Md(a b i j:Nat):dj B a b i (j+1) (i+j)=ae B (iH B a b i (j+1)) (i+j):=by
 rw[dj,if_pos (by omega)]
theorem xi(d:2<=B)(a:Nat){b n:Nat}(i:Nat)(h:b<B^n):(a% B^i)*b<B^(i+n):=by
 have c:0<B^i:=c6 (by omega);rw[ew];exact ei (dp _ c) h
theorem Ji(c:2<=B){a b i n:Nat}(h:b<B^n):mulC B a b i n=ae B ((a% B^(i+1))*b) (i+n):=by
 have h1:=xi c a i h;have d:=xi c a (i+1) h;rw[mulC,Mc a b i h,da h1,Nat.sub_zero];refine(cx ?_).symm;rw[ck (c6 (by omega)),ce B,<-cy,show(i+n).succ=i+1+n by omega];exact d
theorem qd(a b i k:Nat):dj B a b i 0 k=ae B ((a% B^i)*b) k:=by
 rw[dj,Ks];split<;>rfl
theorem Me(c:2<=B){a b i n k:Nat}(h:b<B^n)(hk:k≠i+n):dj B a b i n k=ae B ((a% B^(i+1))*b) k:=by
 rw[dj]
 split
 ·rw[Mc a b i h]
 ·rename_i h1;have e1:(a% B^i)*b<B^k:=ec (xi c a i h) (ej (by omega) (by omega));have e2:(a% B^(i+1))*b<B^k:=ec (xi c a (i+1) h) (ej (by omega) (by omega));rw[jt e1,jt e2]
theorem uC(d:2<=B)(a b i:Nat):∀j,mulC B a b i j<B
 |0=>by rw[CS];omega
 |j+1=>by
  have h:=(Dy d a b i j).2;have f:=uC d a b i j;have g:dj B a b i j (i+j)<B:=by rw[dj];split<;>exact cr d _ _
  have e:ae B a i*ae B b j<=(B-1)*(B-1):=g0 (by have:=cr d a i;omega) (by have:=cr d b j;omega);rw[<-h,ck (by omega)];obtain⟨c,rfl⟩:∃c,B=c+1:=⟨B-1,by omega⟩
  simp only[gi]at e;rw[eb,ea];omega
end
section
variable{B:Nat}
theorem J6{V W d:Nat}(a:0<V/d):W/V<=W/d/(V/d):=by
 have e:0<d:=by
  rcases en d with h|h
  ·subst h;simp at a
  ·exact h
 have f:0<V:=by
  rcases en V with h|h
  ·subst h;simp at a
  ·exact h
 rw[dq a,dq e];have b:W/V*V<=W:=em W V;have c:V/d*d<=V:=em V d
 calc W/V*(V/d)*d=W/V*(V/d*d):=dg _ _ _
  _<=W/V*V:=dz _ c
  _<=W:=b
theorem W5{V W d q:Nat}(f:0<d)(e:0<V)(h:W/d<q*(V/d)):W/V<q:=by
 rw[ck e];have b:W<(W/d+1)*d:=by
  have:=gg (a:=W) f;rw[eb];omega
 have c:V/d*d<=V:=em V d
 calc W<(W/d+1)*d:=b
  _<=q*(V/d)*d:=c9 _ h
  _=q*(V/d*d):=dg _ _ _
  _<=q*V:=dz _ c
theorem VF{V W d q:Nat}(c:0<d)(i:q*d<=V)(b:0<V)(h:q*(V/d)<=W/d):q<=W/V+1:=by
 rcases en q with hq|hq
 ·subst hq;exact Nat.zero_le _
 have:q-1<=W/V:=by
  rw[dq b,Nat.sub_mul,fd];have a:V<=V/d*d+d:=Nat.le_of_lt (gg c);have e:W/d*d<=W:=em W d;have f:q*V<=q*(V/d)*d+q*d:=by
   calc q*V<=q*(V/d*d+d):=dz _ a
    _=q*(V/d)*d+q*d:=by rw[ea,dg]
  have g:q*(V/d)*d<=W/d*d:=c9 _ h;omega
 omega
theorem Dl{q b c T a r:Nat}(d:q*b+r=T):q*(b*B+c)<=T*B+a↔q*c<=r*B+a:=by
 subst d;rw[ea,eb,dg];omega
theorem tT(n k:Nat):n/B^k=n/B^(k+1)*B+ae B n k:=by
 rw[za,ae,ce];exact(dl _ _).symm
theorem rO(n j i:Nat):ae B (n/B^j) i=ae B n (j+i):=by
 rw[ae,ae,cv,ew]
theorem DZ{n m i:Nat}(h:i<m):ae B (n% B^m) i=ae B n i:=by
 obtain⟨d,rfl⟩:∃d,m=i+(d+1):=⟨m-i-1,by omega⟩
 rw[ae,ae,ew,Nat.mod_mul_right_div_self,cy,ce (B^d),e9]
theorem zh{n c m i:Nat}(h:i<m):ae B (n+c*B^m) i=ae B n i:=by
 rw[<-DZ (n:=n+c*B^m) h,eo,DZ h]
def Rz(B W V q n:Nat):Nat:=W+B^(n+1)-q*V
theorem aF6{W V q n:Nat}(h:q*V<=W){i:Nat}(hi:i<n+1):ae B (Rz B W V q n) i=ae B (W-q*V) i:=by
 rw[Rz,show W+B^(n+1)-q*V=(W-q*V)+1*B^(n+1)by omega,zh hi]
theorem Kx(b:2<=B){R d j:Nat}(k:Nat):ae B (R% B^j+d*B^j) k=if k<j then ae B R k else ae B d (k-j):=by
 have a:0<B^j:=c6 (by omega)
 split
 ·rename_i h;rw[zh h,DZ h]
 ·rename_i h;obtain⟨e,rfl⟩:∃e,k=j+e:=⟨k-j,by omega⟩
  rw[<-rO,ee _ _ a,da (dp _ a),g3,Nat.add_sub_cancel_left]
theorem zy{R V j:Nat}:R% (V*B^j)=R% B^j+(R/B^j% V)*B^j/\R/(V*B^j)=R/B^j/V:=by
 constructor
 ·rw[ce V,fZ,ce (B^j)]
 ·rw[ce V,cv]
end
section
variable{c v1 v0 T u1 q r:Nat}
def hq(c b a T u1:Nat):Nat:=(T*c+u1)/(b*c+a)
theorem P8(a:T<v1*c+v0)(b:u1<c):hq c v1 v0 T u1<c:=by
 rw[hq,ck (by omega)]
 calc T*c+u1<T*c+c:=by omega
  _=(T+1)*c:=by rw[eb,fd]
  _<=(v1*c+v0)*c:=c9 _ a
  _=c*(v1*c+v0):=ce _ _
theorem NC(e:0<v1)(g:v0<c)(f:u1<c):hq c v1 v0 T u1<=T/v1:=by
 have hc:0<c:=by omega
 have a:(v1*c+v0)/c=v1:=by rw[ce,gy hc,da g,g5]
 have b:(T*c+u1)/c=T:=by rw[ce,gy hc,da f,g5]
 have h:=J6 (V:=v1*c+v0) (W:=T*c+u1) (d:=c) (by rw[a];exact e)
 rwa [a,b]at h
theorem DT(a:0<v1)(hc:0<c)(d:q*v1+r=T)(f:hq c v1 v0 T u1<=q)(e:q*v0<=c*r+u1):q=hq c v1 v0 T u1:=by
 have b:0<v1*c+v0:=by have:=fl a hc;omega
 have h:q*(v1*c+v0)<=T*c+u1:=(Dl d).2 (by rw[ce r];exact e);have:q<=hq c v1 v0 T u1:=by rw[hq,dq b];exact h
 omega
theorem O2(b:0<v1)(hc:0<c)(f:q*v1+r=T)(i:hq c v1 v0 T u1<=q)(a:c<=q/\hq c v1 v0 T u1<c\/c*r+u1<q*v0):hq c v1 v0 T u1<=q-1:=by
 rcases a with⟨a,g⟩|a
 ·omega
 ·have d:0<v1*c+v0:=by have:=fl b hc;omega
  have h:¬q*(v1*c+v0)<=T*c+u1:=fun e=>by
   have:=(Dl f).1 e;rw[ce r]at this;omega
  have:hq c v1 v0 T u1<q:=by rw[hq,ck d];omega
  omega
theorem XA(a:T<v1*c+v0)(e:v0<c)(b:q*v1+r=T)(d:c<=r):q<c:=by
 rcases fb q c with h|h
 ·exact h
 ·have:c*v1<=q*v1:=c9 _ h;rw[ce c]at this;omega
theorem Ms(b:0<v1)(d:T<v1*c+v0)(g:v0<c)(a:q*v1+r=T)(f:c<=r)(e:hq c v1 v0 T u1<=q):q=hq c v1 v0 T u1:=by
 have j:=XA d g a f;refine DT b (by omega) a e ?_;have h:q*v0<=c*v0:=c9 _ (by omega);have i:c*v0<=c*r:=dz _ (by omega);omega
theorem P7(a:0<v1)(b:T<v1*c+v0)(d:c<=2*v1)(e:v0<c):T/v1<=c+1:=by
 have:T/v1<c+2:=by
  rw[ck a,eb,ce c];omega
 omega
theorem NA:T*c+u1-hq c v1 v0 T u1*(v1*c+v0)=(T*c+u1)% (v1*c+v0):=by
 rw[hq];generalize T*c+u1=A;generalize v1*c+v0=V;have:=dl A V;rw[ce (A/V)];omega
theorem ati{Y U c:Nat}(hY:0<Y):U/Y=U/c/Y*c+((U/c% Y)*c+U% c)/Y/\U% Y=((U/c% Y)*c+U% c)% Y:=by
 have e:U=(U/c% Y*c+U% c)+(U/c/Y*c)*Y:=by
  have a:=dl U c;have b:=dl (U/c) Y;have d:(Y*(U/c/Y)+U/c% Y)*c=U/c*c:=by rw[b]
  rw[eb,ce Y,ge]at d;rw[ce c]at a;omega
 constructor
 ·conv=>lhs;rw[e]
  rw[ee _ _ hY,e7]
 ·conv=>lhs;rw[e]
  rw[eo]
end
section
variable{B W V n q r:Nat}
theorem aG5(b:2<=B)(c:2<=n)(a:V<B^n):V/B^(n-2)=ae B V (n-1)*B+ae B V (n-2):=by
 obtain⟨k,rfl⟩:∃k,n=k+2:=⟨n-2,by omega⟩
 have e1:k+2-2=k:=by omega
 have e2:k+2-1=k+1:=by omega
 rw[e1,e2,tT];have:V/B^(k+1)=ae B V (k+1):=by
  rw[ae,cx];rw[ck (c6 (by omega)),ce,<-cy];exact a
 rw[this]
theorem aGY(c:2<=B)(d:2<=n)(a:B^(n-1)<=V)(b:V<B^n):V/B^(n-1)=ae B V (n-1)/\0<ae B V (n-1):=by
 obtain⟨k,rfl⟩:∃k,n=k+1:=⟨n-1,by omega⟩
 have e2:k+1-1=k:=by omega
 rw[e2]at*;have:V/B^k=ae B V k:=by
  rw[ae,cx];rw[ck (c6 (by omega)),ce,<-cy];exact b
 exact⟨this,by rw[<-this];exact Nat.div_pos a (c6 (by omega))⟩
theorem Dk(b:2<=B)(c:2<=n)(a:B^(n-1)<=V):0<V:=ec (c6 (by omega)) a
theorem NH(c:2<=B)(f:2<=n)(d:B^(n-1)<=V)(e:V<B^n):W/V<=W/B^(n-1)/ae B V (n-1):=by
 obtain⟨a,b⟩:=aGY c f d e;rw[<-a];exact J6 (by rw[a];exact b)
theorem O3(a:2<=B)(c:2<=n)(b:V<B^n)(d:q*ae B V (n-1)+r=W/B^(n-1)):
 q*(V/B^(n-2))<=W/B^(n-2)↔q*ae B V (n-2)<=r*B+ae B W (n-2):=by
 rw[aG5 a c b,tT,show n-2+1=n-1 by omega];exact Dl d
theorem Ff(b:2<=B)(c:2<=n)(a:B^(n-1)<=V)(d:V<B^n)(g:q*ae B V (n-1)+r=W/B^(n-1))(hq:q<B)(h:q*ae B V (n-2)<=r*B+ae B W (n-2)):q<=W/V+1:=by
 have f:0<B^(n-2):=c6 (by omega);refine VF f ?_ (Dk b c a) ((O3 b c d g).2 h);have e:n-1=n-2+1:=by omega
 rw[e,cy,ce]at a;exact Nat.le_trans (c9 _ (by omega)) a
theorem O4(a:2<=B)(b:2<=n)(c:B^(n-1)<=V)(d:V<B^n)(f:q*ae B V (n-1)+r=W/B^(n-1))(g:r*B+ae B W (n-2)<q*ae B V (n-2)):W/V<q:=by
 have e:0<B^(n-2):=c6 (by omega);refine W5 e (Dk a b c) ?_;rcases fb (W/B^(n-2)) (q*(V/B^(n-2)))with h|h
 ·exact h
 ·have:=(O3 a b d f).1 h;omega
theorem NG(a:2<=B)(b:B<=r)(hq:q<B):q*ae B V (n-2)<=r*B+ae B W (n-2):=by
 have e:ae B V (n-2)<B:=cr a _ _;have c:q*ae B V (n-2)<=B*B:=g0 (by omega) (by omega);have d:B*B<=r*B:=c9 _ b;omega
theorem DU(e:2<=B)(f:1<=n)(c:V<B^n)(a:W<V*B):W/B^n<=ae B V (n-1)/\W/V<B:=by
 obtain⟨k,rfl⟩:∃k,n=k+1:=⟨n-1,by omega⟩
 have e2:k+1-1=k:=by omega
 rw[e2];have hk:0<B^k:=c6 (by omega);have b:V/B^k=ae B V k:=by
  rw[ae,cx];rw[ck hk,ce,<-cy];exact c
 refine⟨?_,?_⟩
 ·rw[<-b,cy,ce,<-cv];refine fa ?_;have:W/B<V:=by rw[ck (by omega)];exact a
  omega
 ·have d:0<V:=by
   rcases en V with h|h
   ·subst h;simp at a
   ·exact h
  rw[ck d,ce];exact a
def iw(B V q i:Nat):Nat:=q*(V% B^i)/B^i
theorem WG:iw B V q 0=0:=by simp[iw,e6]
theorem X5(b:2<=B)(i:Nat):(q*ae B V i+iw B V q i)% B=ae B (q*V) i/\(q*ae B V i+iw B V q i)/B=iw B V q (i+1):=by
 have a:0<B^i:=c6 (by omega);have e:q*(V% B^(i+1))/B^i=q*ae B V i+iw B V q i:=by
  rw[mod_pow_succ,ea,gj,db _ _ a,iw,e7]
 rw[<-e];constructor
 ·have e2:q*V=q*(V% B^(i+1))+q*(V/B^(i+1))*B^(i+1):=by
   have:=dk V (B^(i+1))
   conv=>lhs;rw[<-this]
   rw[ea,ce (B^(i+1)),dg]
  conv=>rhs;rw[e2,zh (by omega)]
  rfl
 ·rw[iw,za]
theorem aGf(b:2<=B)(hq:q<B)(i:Nat):iw B V q i<B:=by
 have a:0<B^i:=c6 (by omega);rw[iw,ck a];exact ei hq (dp _ a)
theorem X7(c:2<=B)(hq:q<B)(a:V<B^n):iw B V q n=ae B (q*V) n:=by
 have b:0<B^n:=c6 (by omega);rw[iw,cx a,ae];refine(cx ?_).symm;rw[ck b];exact ei hq a
theorem Vq(hq:q<B)(a:V<B^n):q*V<B^(n+1):=by
 rw[cy,ce (B^n)];exact ei hq a
theorem xd{m i:Nat}(hi:i<m):ae B (W+B^m) i=ae B W i:=by
 have:=zh (B:=B) (n:=W) (c:=1) hi
 rwa [fd]at this
theorem U4(b:W<B^(n+1))(a:q*V<B^(n+1)):fp B (W+B^(n+1)) (q*V) (n+1)=if W<q*V then 1 else 0:=by
 rw[fp,gm,cx b,cx a]
theorem aF7(h:q*V<=W)(b:q<=W/V+1)(a:0<V)(c:W/V<=q):q=W/V/\W-q*V=W% V:=by
 have e:q=W/V:=by
  have:=(dq a).2 h;omega
 refine⟨e,?_⟩;have:=dl W V;rw[e,ce];omega
theorem Yb(h:W<q*V)(b:q<=W/V+1)(a:0<V)(c:W/V<=q):q=W/V+1/\∀M,q*V<=W+M->W+M-q*V+V=W% V+M:=by
 have e:q=W/V+1:=by
  have:¬q<=W/V:=fun e=>by
   have:=(dq a).1 e;omega
  omega
 refine⟨e,fun M d=>?_⟩;have:=dl W V;have e2:q*V=V*(W/V)+V:=by rw[e,eb,fd,ce]
 omega
end
section
variable{S T:Nat}
theorem I4{x0 x1:Nat}(h:x0<S)(c:0<T):(x0+S*x1)% (S*T)=x0+S*(x1% T):=by
 have d:0<S:=by omega
 have e:x1=x1% T+T*(x1/T):=(dk x1 T).symm
 conv=>lhs;rw[e,ea,<-dg,<-Nat.add_assoc,eq]
 refine cx ?_;have a:x1% T+1<=T:=dp _ c;have b:S*(x1% T+1)<=S*T:=dz _ a;rw[ea,Nat.mul_one]at b;omega
theorem Xd(w:Nat):ae (S*T) (w*S) 0=(ae (S*T) w 0*S)% (S*T):=by
 simp only[ae,g4,gc];rw[Nat.mod_mul_mod]
theorem Xe(b:0<S)(a:0<T)(w i:Nat):ae (S*T) (w*S) (i+1)=(ae (S*T) w (i+1)*S)% (S*T)+ae (S*T) w i/T:=by
 have d:0<S*T:=fl b a;have e0:w*S/(S*T)^(i+1)=w/(S*T)^i/T:=by
  rw[cy,ce S T,<-dg,Nat.mul_div_mul_right _ _ b,cv]
 have e1:w/(S*T)^(i+1)=w/(S*T)^i/(S*T):=by rw[cy,cv]
 simp only[ae];rw[e0,e1];generalize w/(S*T)^i=x;have e2:x/T=x% (S*T)/T+S*(x/(S*T)):=by
  conv=>lhs;rw[<-dk x (S*T)]
  rw[show S*T*(x/(S*T))=T*(S*(x/(S*T)))by rw[ce S T,dg],db _ _ a]
 have c:x% (S*T)/T<S:=by rw[ck a];exact dp _ d
 rw[e2,I4 c a];have e3:x/(S*T)% (S*T)*S% (S*T)=S*(x/(S*T)% T):=by
  rw[ce _ S,fv,ce S T,e9]
 rw[e3,e7]
theorem aGn(a:0<S)(e:0<T)(R i:Nat):ae (S*T) (R/S) i=ae (S*T) R i/S+(ae (S*T) R (i+1)*T)% (S*T):=by
 have d:0<S*T:=fl a e;have e0:R/S/(S*T)^i=R/(S*T)^i/S:=by rw[cv,ce,cv]
 have e1:R/(S*T)^(i+1)=R/(S*T)^i/(S*T):=by rw[cy,cv]
 simp only[ae];rw[e0,e1];generalize R/(S*T)^i=x;have e2:x/S=x% (S*T)/S+T*(x/(S*T)):=by
  conv=>lhs;rw[<-dk x (S*T)]
  rw[dg,db _ _ a]
 have c:x% (S*T)/S<T:=by rw[ck a,ce T];exact dp _ d
 have b:=I4 (S:=T) (T:=S) (x0:=x% (S*T)/S) (x1:=x/(S*T)) c a;rw[ce T S]at b;rw[e2,b];have e3:x/(S*T)% (S*T)*T% (S*T)=T*(x/(S*T)% S):=by
  rw[ce _ T,ce S T,fv,ce T S,e9]
 rw[e3]
end
theorem Er{a b s:Nat}(c:b<2^s):a*2^s|||b=a*2^s+b:=by
 have:=Nat.shiftLeft_add_eq_or_of_lt c a;rw[Nat.shiftLeft_eq]at this;exact this.symm
def eW(l:List Nat):List PV:=l.map fun x:Nat=>.int .u64 x
theorem RI(w:List Nat):fe prog 1 (w.map (AV.p∘fun x:Nat=>PV.int .u64 x)):=by
 rw[wO];intro v a;obtain⟨x,_,rfl⟩:=be.1 a;simp[aa,aM,bJ]
theorem Cz:∀l:List Nat,eA (l++[0])=eA l
 |[]=>by simp[eA]
 |d::l=>by rw[b5,eA,Cz l,eA]
theorem wL:∀(l:List Nat)(d:Nat),d≠0->eA (l++[d])=l++[d]
 |[],d,h=>by simp[eA,h]
 |x::l,d,h=>by
  rw[b5,eA,wL l d h]
  split
  ·rename_i e;simp at e
  ·rfl
theorem uG(w:List Nat)(h:w.length<=1048576):aA prog 286 [.seq (eW w)] (.seq (eW (eA w))):=by
 refine aG nf HF mix (by simp[f286]) ?_;simp only[eW];simp[f286];refine lp (α:=Nat) (fun i=>⟨[(3,.p (.int .i64 i)),(0,.p (.seq (w.map fun x:Nat=>.int .u64 x)))],[]⟩) (fun i=>i<=w.length/\eA w=eA (w.take i)) (fun i=>i) w.length (by simp) ?_;rintro i ⟨k1,k2⟩
 by_cases hi:0<i
 ·obtain⟨j,rfl⟩:∃j,i=j+1:=⟨i-1,by omega⟩
  have d:a1.wrap (j:Int)=j:=aO _ (by omega) (by omega);have a:j<w.length:=by omega
  have c:(0:Int)<(j:Int)+1:=by omega
  have k3:=k2;rw[bb a]at k2
  by_cases b:w[j]=0
  ·rw[b,Cz]at k2;have e:((w[j]:Nat):Int)=0:=by omega
   simp[c,d,a,b];exact rd j ⟨by omega,k2⟩
  ·rw[wL _ _ b,<-bb a]at k2;simp[c,d,a,b];refine⟨⟨by omega,by omega,RI w⟩,?_⟩;rw[k2,List.map_take];exact bG.refl _
 ·obtain rfl:i=0:=by omega
  simp[eA]at k2;simp[k2];exact RI w
def eN(n:Nat):PV:=.seq ((au wB n).map fun x:Nat=>.int .u64 x)
theorem bh:2<=wB:=by decide
def fL(a b:Nat):Int:=if a<b then -1 else if b<a then 1 else 0
theorem JF{a b:Nat}(h:(au wB a).length<(au wB b).length):a<b:=by
 have d:=cq bh a;rcases fb a b with c|c
 ·exact c
 ·have:=dQ bh (au wB a).length b (ed c d);omega
theorem La{a b i:Nat}(h:a/wB^(i+1)=b/wB^(i+1))(e:ae wB a i<ae wB b i):a<b:=by
 rw[cy,<-cv,<-cv]at h;have e1:=dl (a/wB^i) wB;have e2:=dl (b/wB^i) wB;rw[ae,ae]at e;rw[h]at e1;rcases fb a b with d|d
 ·exact d
 ·have:=fa (c:=wB^i) d;omega
theorem YJ{a b i:Nat}(h:a/wB^(i+1)=b/wB^(i+1))(c:ae wB a i=ae wB b i):a/wB^i=b/wB^i:=by
 rw[cy,<-cv,<-cv]at h;have e1:=dl (a/wB^i) wB;have e2:=dl (b/wB^i) wB;rw[ae,ae]at c;rw[h]at e1;omega
theorem IL(a b:Nat)(z:(au wB a).length<=1048576)(A:(au wB b).length<=1048576):aA prog 241 [eN a,eN b] (.int .i64 (fL a b)):=by
 refine aG nf Gr mix (by simp[f241]) ?_
 by_cases g:(au wB a).length=(au wB b).length
 case neg=>
  have n:¬((au wB a).length:Int)=(au wB b).length:=by omega
  by_cases u:(au wB a).length<(au wB b).length
  ·have k:((au wB a).length:Int)<(au wB b).length:=by omega
   have:=JF u;have hc:fL a b= -1:=if_pos this;simp[f241,eN,n,k,hc]
  ·have k:¬((au wB a).length:Int)<(au wB b).length:=by omega
   have:=JF (a:=b) (b:=a) (by omega);have hc:fL a b=1:=by rw[fL,if_neg (by omega),if_pos this]
   simp[f241,eN,n,k,hc]
 have r:∀i(h:i<(au wB a).length),(au wB a)[i]=ae wB a i:=fun i h=>eD bh h;have s:∀i(h:i<(au wB b).length),(au wB b)[i]=ae wB b i:=fun i h=>eD bh h;have q:=cq bh a;have m:=cq bh b;rw[<-g]at m;have t:a/wB^(au wB a).length=b/wB^(au wB a).length:=by rw[da q,da m]
 have B:a=b\/a≠b:=by omega
 simp only[eN];generalize au wB a=x at*;generalize au wB b=y at*;have w:a1.wrap ((y.length:Int)-1)=y.length-1:=aO _ (by omega) (by omega);simp[f241,g,w];refine lp (α:=Nat) (fun i=>⟨[(5,.p (.int .i64 ((i:Int)-1))),(1,.p (.seq (y.map fun x:Nat=>.int .u64 x))),(0,.p (.seq (x.map fun x:Nat=>.int .u64 x)))],[]⟩) (fun i=>i<=y.length/\a/wB^i=b/wB^i) (fun i=>i) y.length ⟨gb _,by rw[<-g];exact t⟩ ?_;rintro i ⟨k1,k2⟩
 by_cases hi:0<i
 ·obtain⟨j,rfl⟩:∃j,i=j+1:=⟨i-1,by omega⟩
  have c:j<x.length:=by omega
  have d:j<y.length:=by omega
  have v:a1.wrap ((j:Int)-1)=j-1:=aO _ (by omega) (by omega);have e:=r j c;have f:=s j d
  by_cases hq:ae wB a j=ae wB b j
  ·simp[c,d,e,f,hq,v];exact rd j ⟨by omega,YJ k2 hq⟩
  ·have o:¬(ae wB a j:Int)=ae wB b j:=by omega
   by_cases l:ae wB a j<ae wB b j
   ·have:=La k2 l;have hc:fL a b= -1:=if_pos this;simp[c,d,e,f,o,l,hc]
   ·have:=La k2.symm (show ae wB b j<ae wB a j by omega);have hc:fL a b=1:=by rw[fL,if_neg (by omega),if_pos this]
    simp[c,d,e,f,o,l,hc]
 ·obtain rfl:i=0:=by omega
  rw[g4,gc,gc]at k2;have hc:fL a b=0:=by rw[fL,if_neg (by omega),if_neg (by omega)]
  simp[hc]
@[simp] theorem KZ{α:Type}{f:α->PV}:∀{l:List α},eU (l.map (AV.p∘f))=some (l.map f)
 |[]=>rfl
 |x::l=>by simp only[bi,Function.comp,eU];rw[show(l.map (AV.p∘f))=l.map (fun x=>AV.p (f x))from rfl]at*;have:=@KZ α f l;rw[show(l.map (AV.p∘f))=l.map (fun x=>AV.p (f x))from rfl]at this;simp[this]
def uA(x:Nat):AV:=.p (.int .u64 x)
def gE(n i:Nat)(f:Nat->Nat):List AV:=(a6 n).map fun j=>uA (if j<i then f j else 0)
theorem D6(n i:Nat)(f:Nat->Nat):(gE n i f).length=n:=by simp[gE]
theorem Mf(n:Nat)(f:Nat->Nat):cc n (AV.p (.int .u64 0))=gE n 0 f:=by
 apply a7 (by simp[gE]);intro i a b;simp[gE,uA]
theorem D5{n i:Nat}(f:Nat->Nat)(h:i<n):(gE n i f).set i (.p (.int .u64 (f i)))=gE n (i+1) f:=by
 apply a7 (by simp[gE]);intro j h1 c;simp only[gE,cb,b0]at c;rw[b3];simp only[gE,b4,bv,uA]
 by_cases a:i=j
 ·subst a;rw[if_pos rfl,if_pos (by omega)]
 ·rw[if_neg a]
  by_cases b:j<i
  ·rw[if_pos b,if_pos (by omega)]
  ·rw[if_neg b,if_neg (by omega)]
theorem Mg(n:Nat)(f:Nat->Nat):gE n n f=((a6 n).map f).map (AV.p∘fun x:Nat=>PV.int .u64 x):=by
 rw[gE,bk];apply bl;intro j a;rw[if_pos (List.mem_range.1 a)];rfl
@[simp] theorem aLM{N:Nat×Nat->Prop}{n i:Nat}{f:Nat->Nat}:aV N (gE n i f)=True:=by
 rw[cJ,eq_iff_iff,iff_true];intro v a;simp only[gE,be]at a;obtain⟨x,_,rfl⟩:=a;trivial
theorem xe{n i j:Nat}(f:Nat->Nat)(h:j<n):(gE n i f)[j]?=some (uA (if j<i then f j else 0)):=by
 rw[gE,b1,bo h];rfl
theorem Vl{A C n:Nat}(a:A<wB^n)(b:C<wB^n):dh wB A C n=ae wB (A+C) n:=by
 have c:0<wB^n:=c6 (by decide);have:=l9 bh A C n;rw[dh,cx a,cx b]at*;rw[ae,cx];exact ed this (by decide)
theorem DY{n i:Nat}(h:(au wB n).length<=i):ae wB n i=0:=jt (ec (cq bh n) (ej (by decide) h))
theorem Vp(a b:Nat)(E:(au wB a).length<=1000000)(F:(au wB b).length<=1000000):aA prog 240 [eN a,eN b] (eN (a+b)):=by
 refine aG nf Om mix (by simp[f240]) ?_;simp[f240,-bm];rw[bm];simp[-bm];refine join (fun s=>∃A C,A+C=a+b/\(au wB C).length<=(au wB A).length/\(au wB A).length<=1000000/\aN s.env 0=.p (eN A)/\aN s.env 1=.p (eN C)/\s.heap=[]) ?_ ?_
 ·by_cases T:(au wB a).length<(au wB b).length
  ·have j:((au wB a).length:Int)<(au wB b).length:=by omega
   simp[eN,j];exact⟨b,a,by omega,by omega,F,rfl,rfl⟩
  ·have j:¬((au wB a).length:Int)<(au wB b).length:=by omega
   simp[eN,j];exact⟨a,b,rfl,by omega,E,rfl,rfl⟩
 rintro⟨Q,S⟩ ⟨A,C,hs,K,U,f0,f1,B⟩;dsimp only at f0 f1 B;subst B;rw[<-hs];simp only[eN]at f0 f1⊢;have G:∀i(h:i<(au wB A).length),(au wB A)[i]=ae wB A i:=fun i h=>eD bh h;have H:∀i(h:i<(au wB C).length),(au wB C)[i]=ae wB C i:=fun i h=>eD bh h;have I:=cq bh A;have J:=ec (cq bh C) (ej (show 0<wB by decide) K);have t:=Vl I J;have L:=@DY C;have M:eA ((a6 ((au wB A).length+1)).map (ae wB (A+C)))=au wB (A+C):=jv bh (by
  have R:2*wB^(au wB A).length<=wB^((au wB A).length+1):=by rw[cy,ce];exact dz _ bh
  omega)
 have d:=uG ((a6 ((au wB A).length+1)).map (ae wB (A+C))) (by simp;omega);rw[M]at d;generalize au wB (A+C)=z at*;generalize au wB A=x at*;generalize au wB C=y at*;obtain⟨n,c⟩:∃n,x.length=n:=⟨_,rfl⟩
 obtain⟨m,o⟩:∃m,y.length=m:=⟨_,rfl⟩
 rw[c]at t d;have u:=Mg (n+1) (ae wB (A+C));have k:((a6 (n+1)).map (ae wB (A+C))).length=n+1:=by simp
 generalize (a6 (n+1)).map (ae wB (A+C))=l at d u k;have V:n<=1000000:=by omega
 have W:m<=n:=by omega
 have N:a1.wrap ((n:Int)+1)=n+1:=ct (by omega);simp[f0,f1,c,N];refine⟨⟨by omega,by simp only[di];omega⟩,?_⟩;rw[Mf (n+1) (ae wB (A+C))];refine lp (α:=Nat) (fun i=>⟨[(22,.p (.int .i64 i)),(21,.p (.int .i64 n)),(6,.p (.int .u64 (dh wB A C i:Nat))),(5,.sl 0 0 1 0 (n+1)),(1,.p (.seq (y.map fun x:Nat=>.int .u64 x))),(0,.p (.seq (x.map fun x:Nat=>.int .u64 x)))],[.arr .exact 0 1 (gE (n+1) i (ae wB (A+C)))]⟩)
  (fun i=>i<=n) (fun i=>n-i) 0 (by simp) ?_ (he:=by simp[f0,f1,zn])
 intro i k1;have D:=ct (i:=i) (by omega)
 by_cases hi:i<n
 ·have g:i<x.length:=by rw[c];exact hi
  have hx:=G i g;have e:=rV (ae wB A i) (ae wB C i) (dh wB A C i) (l9 bh A C i);obtain⟨g1,g2⟩:=rC bh A C i;rw[g1,g2]at e;have aK:=D5 (n:=n+1) (ae wB (A+C)) (show i<n+1 by omega);have ak:i<(gE (n+1) i (ae wB (A+C))).length:=by rw[D6];omega
  have w:(gE (n+1) i (ae wB (A+C))).length=n+1:=D6 _ _ _;have X:gE (n+1) i (ae wB (A+C))≠[]:=by intro h;rw[h]at w;simp at w
  have f:i<n+1:=by omega
  by_cases q:i<m
  ·have v:i<y.length:=by rw[o];exact q
   have O:=H i v;have r:(i:Int)<m:=by omega
   simp[c,o,hi,q,r,hx,O,g,v];refine c3 e ?_;simp[f,aK,D,xe _ f,aa,aM,bJ,uA];exact rd (i+1) (show i+1<=n by omega)
  ·have r:¬(i:Int)<m:=by omega
   have P:=L (i:=i) (by omega);rw[P]at e;simp[c,o,hi,q,r,hx,g];refine c3 e ?_;simp[f,aK,D,xe _ f,aa,aM,bJ,uA];exact rd (i+1) (show i+1<=n by omega)
 have:i=n:=by omega
 subst this;simp[c,t,xe _ (gt i),D5 _ (gt i),u,aa,aM,bJ,uA];refine cp d (by simp[k];exact⟨rfl,rfl⟩) ?_ (h1:=by simp[eW,a8,k]);simp;exact bG.refl _
end Go.ag
namespace Go.ag
open Go.Proofs
theorem W8{x y c d:Nat}(h:x+wB=d+(y+c))(a:d<wB):(x+wB-y-c)% wB=d:=by rw[show x+wB-y-c=d by omega];exact cx a
theorem Xs{x y c d:Nat}(h:x=d+(y+c))(a:d<wB):(x+wB-y-c)% wB=d:=by rw[show x+wB-y-c=d+wB by omega,gm];exact cx a
theorem OS{A C:Nat}(h:C<=A)(i:Nat):aA prog 287 [.int .u64 (ae wB A i),.int .u64 (ae wB C i),.int .u64 (fp wB A C i)] (.aE [.int .u64 (ae wB (A-C) i),.int .u64 (fp wB A C (i+1))]):=by
 have c:fp wB A C i<=1:=by rw[fp];split<;>omega
 have a:=Zp (ae wB A i) (ae wB C i) (fp wB A C i) c;have b:=cr bh (A-C) i;have e:=cr bh A i;have f:=cr bh C i;have d:wB=18446744073709551616:=rfl;rcases Lu bh h i with⟨e1,e2,e3⟩|⟨e1,e2,e3⟩
 ·rw[if_pos e1,W8 e3 b]at a;rw[e2];exact a
 ·rw[if_neg (by omega),Xs e3 b]at a;rw[e2];exact a
theorem JP(A C:Nat)(k:C<=A)(D:(au wB A).length<=1000000):aA prog 242 [eN A,eN C] (eN (A-C)):=by
 refine aG nf Ht mix (by simp[f242]) ?_;have F:(au wB C).length<=(au wB A).length:=dQ bh _ _ (ed k (cq bh A));have s:∀i(h:i<(au wB A).length),(au wB A)[i]=ae wB A i:=fun i h=>eD bh h;have t:∀i(h:i<(au wB C).length),(au wB C)[i]=ae wB C i:=fun i h=>eD bh h;have u:=@DY C;have v:eA ((a6 (au wB A).length).map (ae wB (A-C)))=au wB (A-C):=jv bh (ed (Nat.sub_le A C) (cq bh A));have b:=uG ((a6 (au wB A).length).map (ae wB (A-C))) (by simp;omega);rw[v]at b;simp only[eN];generalize au wB (A-C)=z at*;generalize au wB A=x at*;generalize au wB C=y at*;obtain⟨n,a⟩:∃n,x.length=n:=⟨_,rfl⟩
 obtain⟨m,f⟩:∃m,y.length=m:=⟨_,rfl⟩
 rw[a]at b;have o:=Mg n (ae wB (A-C));have e:((a6 n).map (ae wB (A-C))).length=n:=by simp
 generalize (a6 n).map (ae wB (A-C))=l at b o e;have E:n<=1000000:=by omega
 have H:m<=n:=by omega
 simp[f242,a];refine⟨by simp only[di];omega,?_⟩;rw[Mf n (ae wB (A-C))];refine lp (α:=Nat) (fun i=>⟨[(14,.p (.int .i64 i)),(13,.p (.int .i64 n)),(6,.p (.int .u64 (fp wB A C i:Nat))),(5,.sl 0 0 1 0 n),(1,.p (.seq (y.map fun x:Nat=>.int .u64 x))),(0,.p (.seq (x.map fun x:Nat=>.int .u64 x)))],[.arr .exact 0 1 (gE n i (ae wB (A-C)))]⟩)
  (fun i=>i<=n) (fun i=>n-i) 0 (by simp) ?_ (he:=by simp[Cy])
 intro i k1;have r:=ct (i:=i) (by omega)
 by_cases hi:i<n
 ·have d:i<x.length:=by rw[a];exact hi
  have hx:=s i d;have c:=OS k i;have aK:=D5 (n:=n) (ae wB (A-C)) hi;have G:(gE n i (ae wB (A-C))).length=n:=D6 _ _ _
  by_cases g:i<m
  ·have q:i<y.length:=by rw[f];exact g
   have w:=t i q;have j:(i:Int)<m:=by omega
   simp[a,f,hi,g,j,hx,w,d,q];refine c3 c ?_;simp[hi,aK,r,xe _ hi,aa,aM,bJ,uA];exact rd (i+1) (show i+1<=n by omega)
  ·have j:¬(i:Int)<m:=by omega
   have B:=u (i:=i) (by omega);rw[B]at c;simp[a,f,hi,g,j,hx,d];refine c3 c ?_;simp[hi,aK,r,xe _ hi,aa,aM,bJ,uA];exact rd (i+1) (show i+1<=n by omega)
 have:i=n:=by omega
 subst this;simp[a,o,aa,aM,bJ,uA];refine cp b (by simp[e];exact⟨rfl,rfl⟩) ?_ (h1:=by simp[eW,a8,e]);simp;exact bG.refl _
end Go.ag
namespace Go.Proofs
open Go.Shelf
def Tryz.U0:Go.Shelf.Ren:=⟨fun|134=>331|129=>312|n=>n,fun|53=>304|3=>3|4=>4|46=>323|5=>5|9=>9|n=>n,fun|n=>n⟩
theorem Tryz.aDL:Go.Proofs.Lays.n134 prog U0:={
 mixed:=by kernel_rfl
 f129:=func312.trans (congrArg some (by kernel_rfl))
 f134:=func331.trans (congrArg some (by kernel_rfl))
 t3:=underlying3
 a3:=isAgg3
 z3:=sizeOf3
 v3:=zeroValue3
 t4:=underlying4
 a4:=isAgg4
 z4:=sizeOf4
 v4:=zeroValue4
 t5:=underlying5
 a5:=isAgg5
 z5:=sizeOf5
 v5:=zeroValue5
 t9:=underlying9
 a9:=isAgg9
 z9:=sizeOf9
 v9:=zeroValue9
 t46:=underlying323
 a46:=isAgg323
 z46:=sizeOf323
 v46:=zeroValue323
 t53:=underlying304
 a53:=isAgg304
 z53:=sizeOf304
 v53:=zeroValue304}
theorem Tryz.bits_LeadingZeros64(x:Int)(w:am)(a:0<=x)(b:x<=18446744073709551615):
 a0 prog 331 #[.int .u64 x] w fun e w'=>e=.returned (.int .i64 (64-(Lib.bitLen x.toNat:Int)))/\w'=w:=Any.bits_LeadingZeros64 aDL x w a b
def Tryz.U1:Go.Shelf.Ren:=⟨fun|129=>312|n=>n,fun|53=>304|3=>3|4=>4|46=>323|5=>5|9=>9|n=>n,fun|n=>n⟩
theorem Tryz.aDK:Go.Proofs.Lays.n129 prog U1:={
 mixed:=by kernel_rfl
 f129:=func312.trans (congrArg some (by kernel_rfl))
 t3:=underlying3
 a3:=isAgg3
 z3:=sizeOf3
 v3:=zeroValue3
 t4:=underlying4
 a4:=isAgg4
 z4:=sizeOf4
 v4:=zeroValue4
 t5:=underlying5
 a5:=isAgg5
 z5:=sizeOf5
 v5:=zeroValue5
 t9:=underlying9
 a9:=isAgg9
 z9:=sizeOf9
 v9:=zeroValue9
 t46:=underlying323
 a46:=isAgg323
 z46:=sizeOf323
 v46:=zeroValue323
 t53:=underlying304
 a53:=isAgg304
 z53:=sizeOf304
 v53:=zeroValue304}
theorem Tryz.bits_Len64(x:Int)(w:am)(a:0<=x)(b:x<=18446744073709551615):
 a0 prog 312 #[.int .u64 x] w fun e w'=>e=.returned (.int .i64 (Lib.bitLen x.toNat))/\w'=w:=Any.bits_Len64 aDK x w a b
def Tryz.UY:Go.Shelf.Ren:=⟨fun|264=>246|n=>n,fun|53=>304|46=>323|n=>n,fun|n=>n⟩
theorem Tryz.aDP:Go.Proofs.Lays.n264 prog UY:={
 mixed:=by kernel_rfl
 f264:=func246.trans (congrArg some (by kernel_rfl))
 t46:=underlying323
 a46:=isAgg323
 z46:=sizeOf323
 v46:=zeroValue323
 t53:=underlying304
 a53:=isAgg304
 z53:=sizeOf304
 v53:=zeroValue304}
open Go.RowKit Go.Lib in
theorem Tryz.bits_Mul64(x y:Nat)(hx:x<18446744073709551616)(hy:y<18446744073709551616)(w:am):
 a0 prog 246 #[.int .u64 x,.int .u64 y] w fun e w'=>e=.returned (.tuple #[.int .u64 ((x*y/18446744073709551616:Nat):Int),.int .u64 ((x*y% 18446744073709551616:Nat):Int)])/\w'=w:=Any.bits_Mul64 aDP x y hx hy w
end Go.Proofs
namespace Go.ag
open Go.Proofs
section
variable[Gl]{P:ao}
theorem iO{f:an}{fn:Func}(h:P.funcs[f]?=some fn)(hs:(fn.body.isSome&&(fn.name != "runtime.NumGoroutine"))=true):Enters P f:=by
 intro args w;simp only[Bool.and_eq_true,bne_iff_ne]at hs;cases a:fn.body with
 |none=>rw[a]at hs;simp at hs
 |some c=>simp[callFunc,h,hs.2,a]
theorem jH{f:an}{args:List PV}{v:PV}(l:Enters P f)
 (h:∀(w:am)(ad:Nat->Prop)(a:List ap),(∀k,ad k->k<w.heap.size)->mY P w ad->bw P w ad args a->
  a0 P f a.toArray w fun e w'=>∃b,e=.returned b/\(w.heap.size<=w'.heap.size/\(∀k,k<w.heap.size->w'.heap[k]?=w.heap[k]?)/\w'.os=w.os/\w'.output=w.output)/\∀(w:am)(ad:Nat->Prop),aC P w ad v b):aA P f args v:=by
 refine .inl ⟨l,fun w ad a d m j=>(h w ad a d m j).mono ?_⟩;rintro e w' ⟨b,rfl,⟨c,g,n⟩,i⟩;exact⟨b,ad,rfl,fun _ x=>x,fun _ x=>.inl x,fun k hk=>ec (d k hk) c,c,g,n,i _ _⟩
theorem mS{w:am}{ad:Nat->Prop}{a b:PV}{cs:List ap}(h:bw P w ad [a,b] cs):∃x y,cs=[x,y]/\aC P w ad a x/\aC P w ad b y:=by
 simp only[bw]at h;obtain⟨x,xs,rfl,c,y,e,rfl,d,rfl⟩:=h;exact⟨x,y,rfl,c,d⟩
theorem zX{w:am}{ad:Nat->Prop}{a:PV}{cs:List ap}(h:bw P w ad [a] cs):∃x,cs=[x]/\aC P w ad a x:=by
 simp only[bw]at h;obtain⟨x,xs,rfl,b,rfl⟩:=h;exact⟨x,rfl,b⟩
end
theorem Ag(x y:Nat)(hx:x<18446744073709551616)(g:y<18446744073709551616):aA prog 246 [.int .u64 x,.int .u64 y] (.aE [.int .u64 ((x*y/18446744073709551616:Nat):Int),.int .u64 ((x*y% 18446744073709551616:Nat):Int)]):=by
 refine jH (iO func246 (by kernel_rfl)) fun w ad h _ _ f=>?_;obtain⟨a,b,rfl,c,d⟩:=mS f;simp only[aC]at c d;subst c d;refine(bits_Mul64 x y hx g w).mono ?_;rintro e w' ⟨rfl,rfl⟩;refine⟨_,rfl,⟨gb _,fun _ _=>rfl,rfl,rfl⟩,fun w ad=>?_⟩;simp only[aC,bw];exact⟨[_,_],⟨_,_,rfl,rfl,_,_,rfl,rfl,rfl⟩,rfl⟩
theorem OU(x:Nat)(hx:x<18446744073709551616):aA prog 331 [.int .u64 x] (.int .i64 (64-(Lib.bitLen x:Int))):=by
 refine jH (iO func331 (by kernel_rfl)) fun w ad d _ _ c=>?_;obtain⟨a,rfl,b⟩:=zX c;simp only[aC]at b;subst b;refine(bits_LeadingZeros64 x w (by omega) (by omega)).mono ?_;rintro e w' ⟨rfl,rfl⟩;refine⟨_,rfl,⟨gb _,fun _ _=>rfl,rfl,rfl⟩,fun w ad=>?_⟩;simp only[aC];rfl
end Go.ag
namespace Go.ag
open Go.Proofs
theorem fy(n:Int)(h:0<=n)(a:n<wB):a2.wrap n=n:=IntWalk.u64_in n ⟨h,by simp only[wB]at a;omega⟩
def cg(n:Nat)(f:Nat->Nat):List AV:=(a6 n).map fun j=>uA (f j)
theorem MU(n:Nat)(f:Nat->Nat):(cg n f).length=n:=by simp[cg]
theorem mP{n j:Nat}(f:Nat->Nat)(h:j<n):(cg n f)[j]?=some (.p (.int .u64 (f j))):=by
 rw[cg,b1,bo h];rfl
theorem Dz{n:Nat}{f:Nat->Nat}(h:∀j,f j=0):cc n (AV.p (.int .u64 0))=cg n f:=by
 apply a7 (by simp[cg]);intro i a b;simp[cg,uA,h]
theorem qo{n i v:Nat}{f g:Nat->Nat}(d:g i=v)(c:∀k,k≠i->g k=f k):(cg n f).set i (.p (.int .u64 v))=cg n g:=by
 apply a7 (by simp[cg]);intro j e b;simp only[cg,cb,b0]at b;rw[b3];simp only[cg,b4,bv,uA]
 by_cases a:i=j
 ·subst a;rw[if_pos rfl,d]
 ·rw[if_neg a,c j (by omega)]
theorem DA(n:Nat)(f:Nat->Nat):cg n f=((a6 n).map f).map (AV.p∘fun x:Nat=>PV.int .u64 x):=by
 rw[cg,bk];rfl
theorem CT{n:Nat}{f g:Nat->Nat}(h:∀k,f k=g k):cg n f=cg n g:=by rw[show f=g from funext h]
@[simp] theorem aLL{N:Nat×Nat->Prop}{n:Nat}{f:Nat->Nat}:aV N (cg n f)=True:=by
 rw[cJ,eq_iff_iff,iff_true];intro v a;simp only[cg,be]at a;obtain⟨x,_,rfl⟩:=a;trivial
@[simp] theorem aLP{σ:Nat->Nat}{n:Nat}{f:Nat->Nat}:cR σ (cg n f)=cg n f:=by
 have:∀l:List Nat,cR σ (l.map fun j=>uA (f j))=l.map fun j=>uA (f j):=by
  intro l
  induction l with
  |nil=>rfl
  |cons a r b=>simp only[bi,cR,b];rfl
 exact this _
theorem mul_two(P o k:Nat)(h:(P+o+k)/wB<wB)(a:o<wB)(hk:k<wB):
 ((P% wB+o+0)% wB+k+0)% wB=(P+o+k)% wB/\P/wB+(P% wB+o+0)/wB+((P% wB+o+0)% wB+k+0)/wB=(P+o+k)/wB/\P/wB+(P% wB+o+0)/wB<wB:=by
 simp only[wB]at*;omega
theorem Vn(a b:Nat)(D:(au wB a).length+(au wB b).length<=1000000):aA prog 248 [eN a,eN b] (eN (a*b)):=by
 refine aG nf Nz mix (by simp[f248]) ?_;have Q:∀i(h:i<(au wB a).length),(au wB a)[i]=ae wB a i:=fun i h=>eD bh h;have R:∀i(h:i<(au wB b).length),(au wB b)[i]=ae wB b i:=fun i h=>eD bh h;have t:=cq bh a;have q:=cq bh b;have V:eA ((a6 ((au wB a).length+(au wB b).length)).map (ae wB (a*b)))=au wB (a*b):=jv bh (by
  rw[ew];exact ei t q)
 have e:=uG ((a6 ((au wB a).length+(au wB b).length)).map (ae wB (a*b))) (by simp;omega);rw[V]at e;simp only[eN];generalize au wB (a*b)=z at*;generalize au wB a=x at*;generalize au wB b=y at*;obtain⟨n,d⟩:∃n,x.length=n:=⟨_,rfl⟩
 obtain⟨m,c⟩:∃m,y.length=m:=⟨_,rfl⟩
 rw[d]at t e D;rw[c]at q e D;have E:=DA (n+m) (ae wB (a*b));have u:((a6 (n+m)).map (ae wB (a*b))).length=n+m:=by simp
 generalize (a6 (n+m)).map (ae wB (a*b))=l at e E u;have ah:a1.wrap ((n:Int)+m)=((n+m:Nat):Int):=by rw[aO _ (by omega) (by omega)];omega
 have U:((n:Int)+m).toNat=n+m:=by omega
 have T:0<=(n:Int)+m:=by omega
 have Y:a1.wrap ((n:Int)+m)=(n:Int)+m:=aO _ (by omega) (by omega);simp[f248,d,c,Y,U,T];refine⟨by simp only[di];omega,?_⟩;rw[Dz (f:=dj wB a b 0 0) (by intro j;simp[qd,e6,ae])];refine lp (α:=Nat) (fun i=>⟨[(22,.p (.int .i64 i)),(21,.p (.int .i64 n)),(20,.p (.seq (x.map fun x:Nat=>.int .u64 x))),(5,.sl 0 0 1 0 (n+m)),(1,.p (.seq (y.map fun x:Nat=>.int .u64 x)))],[.arr .exact 0 1 (cg (n+m) (dj wB a b i 0))]⟩)
  (fun i=>i<=n) (fun i=>n-i) 0 (by simp) ?_ (he:=by simp)
 intro i k1;have W:=ct (i:=i) (by omega)
 by_cases hi:i<n
 ·have F:i<x.length:=by rw[d];exact hi
  have hx:=Q i F;simp[d,c,hi,F,hx];refine lp (α:=Nat) (fun j=>⟨[(29,.p (.int .i64 j)),(28,.p (.int .i64 m)),(27,.p (.seq (y.map fun x:Nat=>.int .u64 x))),(8,.p (.int .u64 (mulC wB a b i j:Nat))),(7,.p (.int .u64 (ae wB a i:Nat))),(6,.p (.int .i64 i)),(22,.p (.int .i64 i)),(21,.p (.int .i64 n)),(20,.p (.seq (x.map fun x:Nat=>.int .u64 x))),(5,.sl 0 0 1 0 (n+m)),(1,.p (.seq (y.map fun x:Nat=>.int .u64 x)))],[.arr .exact 0 1 (cg (n+m) (dj wB a b i j))]⟩)
   (fun j=>j<=m) (fun j=>m-j) 0 (by simp) ?_ (he:=by simp[CS])
  intro j k2;have X:=ct (i:=j) (by omega);have A:((i:Int)+j).toNat=i+j:=by omega
  have w:0<=(i:Int)+j:=by omega
  have I:a1.wrap ((i:Int)+j)=(i:Int)+j:=aO _ (by omega) (by omega)
  by_cases G:j<m
  ·have H:j<y.length:=by rw[c];exact G
   have ab:=R j H;have s:i+j<n+m:=by omega
   have o:=mP (dj wB a b i j) s;have r:=Dy bh a b i j;have N:=uC bh a b i j;have O:=uC bh a b i (j+1);have P:dj wB a b i j (i+j)<wB:=by rw[dj];split<;>exact cr bh _ _
   obtain⟨e1,e2,e3⟩:=mul_two (ae wB a i*ae wB b j) (dj wB a b i j (i+j)) (mulC wB a b i j) (by rw[r.2];exact O) P N;rw[r.1]at e1;rw[r.2]at e2;have J:=Ag (ae wB a i) (ae wB b j) (cr bh _ _) (cr bh _ _);rw[show(18446744073709551616:Nat)=wB from rfl]at J;have ac:=rV (ae wB a i*ae wB b j% wB) (dj wB a b i j (i+j)) 0 (by omega);have K:=rV ((ae wB a i*ae wB b j% wB+dj wB a b i j (i+j)+0)% wB) (mulC wB a b i j) 0 (by omega);rw[e1]at K;have hs:=qo (n:=n+m) (i:=i+j) (f:=dj wB a b i j) (g:=dj wB a b i (j+1)) (Md a b i j) (fun k hk=>Kv bh hk);generalize ae wB a i*ae wB b j% wB=L at*;generalize ae wB a i*ae wB b j/wB=B at*;generalize (L+dj wB a b i j (i+j)+0)% wB=ad at*;generalize (L+dj wB a b i j (i+j)+0)/wB=C at*;generalize (ad+mulC wB a b i j+0)/wB=af at*;have M:a2.wrap ((B:Int)+C)=((B+C:Nat):Int):=by rw[fy _ (by omega) (by omega)];omega
   have ag:a2.wrap ((B:Int)+C+af)=(mulC wB a b i (j+1):Nat):=by rw[fy _ (by omega) (by omega)];omega
   simp[d,c,G,H,ab];refine c2 J ?_;simp[I,A,w,s,o,aa,aM,bJ];refine c3 ac ?_;simp[M];refine c3 K ?_;simp[I,A,w,s,o,hs,M,ag,X,aa,aM,bJ];exact rd (j+1) (show j+1<=m by omega)
  have:j=m:=by omega
  subst this;have Z:a1.wrap ((i:Int)+j)=(i:Int)+j:=aO _ (by omega) (by omega);have ak:i+j<n+j:=by omega
  have o:=mP (dj wB a b i j) ak;have hs:=qo (n:=n+j) (i:=i+j) (f:=dj wB a b i j) (g:=dj wB a b (i+1) 0) (v:=mulC wB a b i j) (by rw[qd,Ji bh q]) (fun k hk=>by rw[qd,Me bh q hk]);simp[c,Z,A,w,hi,ak,o,hs,W,aa,aM,bJ];exact rd (i+1) (show i+1<=n by omega)
 have:i=n:=by omega
 subst this;have S:cg (i+m) (dj wB a b i 0)=cg (i+m) (ae wB (a*b)):=CT fun k=>by rw[qd,cx t]
 simp[d,S,E];refine cp e (by simp[u];exact⟨rfl,rfl⟩) ?_ (h1:=by simp[eW,a8,u]);simp;exact bG.refl _
end Go.ag
