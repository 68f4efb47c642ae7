import Derived.Test.YtenbmieafgdjaaaGreatDoorNPD
import Derived.Deep.DeepHandedRow
import Derived.Deep.DeepWitnessRowRef
import Derived.Seven
import Derived.SevenTiedAt
import Derived.Test.YtenbmieafgdjaaaGreatDoorNPA
import Derived.KernelRfl
import Derived.Shelf.Spec.BitsCarry
import Derived.Shelf.Strings.Builder1
import Derived.Shelf.Strings.Builder2
import Derived.Shelf.Strings.OnBuilder
import Derived.Shelf.Small.Utf8
import Derived.Shelf.Small.Bits
import Derived.Shelf.Small.Strs
import Derived.Shelf.Small.Wraps
import Derived.Shelf.Strings.BuilderF
import Derived.Shelf.Strconv.Atoi
import Derived.Shelf.Strconv.Itoa0
import Derived.Shelf.Strconv.Itoa1
import Derived.Shelf.LaysM
import Derived.Shelf.Strconv.AtoiErrFast
import Derived.Shelf.Strconv.ParseIntEmpty
import Derived.Shelf.Strconv.AtoiFail
import Derived.Shelf.Strconv.Clone
import Derived.Shelf.Strconv.Lower
import Derived.Shelf.Strconv.ParseUint10
import Derived.Shelf.Strconv.ParseUint10Empty
import Derived.Shelf.Strconv.RangeError
import Derived.Shelf.Strings.Search1
import Derived.Shelf.Strings.Search2
import Derived.Shelf.Strings.Search3
import Derived.Shelf.Strings.Cut
import Derived.Shelf.Strings.Count
import Derived.Shelf.Strings.Shaped
import Derived.Shelf.Strings.Prefix
import Derived.Shelf.Strings.Runes
import Derived.Shelf.Strings.AsciiSet
import Derived.Shelf.Bits.Mul64
import Derived.Shelf.Strings.Repeat
import Derived.Shelf.Unicode.DecodeSlow
import Derived.Test.YtenbmieafgdjaaaGreatDoorProg
/- Parts of a proof. -/
set_option linter.unusedSimpArgs false
set_option linter.unusedVariables false
set_option linter.unusedSectionVars false
open Go.Proofs.Tryz
open Go renaming World->am, FuncId->ao, Program->ap, Value->av, OpenSpec->ax, run_callFunc_extern->ay, Checked->aT, ReturnsInHanded->a0, Calls->a1
open Go.IntKind renaming i64->a2, u64->a6
open List renaming range->a7, ext_getElem->a8, take_of_length_le->bb, take_succ_eq_append_getElem->be, mem_map->bi, map_cons->bk, map_map->bl, map_congr_left->bo, getElem?_range->br, getElem_range->bv, length_range->b0, getElem?_map->b1, length_cons->b2, getElem_set->b3, getElem_map->b4, cons_append->b5, length_map->cb, replicate->cc
open Nat renaming mul_comm->ce, div_lt_iff_lt_mul->ck, div_div_eq_div_mul->cv, mod_eq_of_lt->cx, pow_succ->cy, pow_pos->c6, mul_le_mul_right->c9, div_eq_of_lt->da, add_mul_div_left->db, mul_assoc->dg, mod_add_div->dk, div_add_mod->dl, mod_lt->dp, le_div_iff_mul_le->dq, mul_le_mul_left->dz, mul_add->ea, add_mul->eb, lt_of_lt_of_le->ec, lt_of_le_of_lt->ed, add_mul_div_right->ee, mul_lt_mul''->ei, pow_le_pow_right->ej, div_mul_le_self->em, eq_zero_or_pos->en, add_mul_mod_self_right->eo, add_mul_mod_self_left->eq, pow_add->ew, mod_one->e6, add_comm->e7, div_lt_self->e8, mod_mul_right_mod->e9, div_le_div_right->fb, lt_or_ge->fd, one_mul->fl, mul_pos->fm, add_mod->fv, mul_mod_mul_left->fI, mod_mul->ga, le_refl->gb, div_one->gc, mul_right_comm->ge, lt_div_mul_add->gg, add_sub_cancel->gi, mul_left_comm->gj, add_mod_right->gl, lt_succ_self->gm, strongRecOn->gt, mul_add_div->gx, mul_le_mul->gy, zero_add->g0, pow_zero->g3, add_zero->g4
namespace Go.au
open Go.Proofs
section
variable{H:Type}{enc:TypeId×av->H}
theorem aAG{p:Pinned}{C:aT}{P:ap}(b:p.checked=C)(d:C.prog=P){s:ax}{c:OpenClaim}(f:ao)(fn:Func)
 (l:c.program=p.name)(hs:c.sum=p.sum)(q:c.spec=s.name)
 (r:c.start=.entering)(o:c.outside=[])(aj:c.inits=[])(u:c.under=none)(i:c.initsInPlace=[]/\c.initsUnfollowed=false/\c.initsRecurse=false/\c.initsNamed=[]/\c.initsPassed=[])(n:c.noBlocks=false)(k:c.leaving=false)(g:c.followed=none)(m:c.narrowed=s.cond.isSome)(t:c.still=false)
 (e:P.funcNamed c.func=some f)(hf:P.funcs[f]?=some fn)
 (closed:joinedFacts P f fn s.bare c=true)
 (j:fn.isInstance P c.origin c.targs)(v:fn.isWrapper P c.wrapper c.mainSum)
 (h:∀os:Os,os.Started->∀(H:Type)(a:TypeId×av->H)(F:Stop.Interp),
  a0 c.assume C os f .any (s.preRow a P fn c.domain c.apart c.laid) ((s.at F).post a P fn c.apart c.fresh c.handsOn c.again)):c.holds p s:=by
 subst b;subst d;exact OpenClaim.holds_of_cond f fn l hs q r o aj u i n k g m t e hf closed j v (fun os st H a _ F=>by rw[OpenClaim.pre_eq_preRow];exact h os st H a F)
theorem Ua{a:Assume}{C:aT}{P:ap}(q:C.prog=P){os:Os}{f:ao}{fn:Func}{s:ax}{F:Stop.Interp}{h:List PathCond}{apart fresh handsOn again:Bool}{laid:List (String×DataW Unit)}
 (x:ownKnob P.godebug=none)(y:os.Started)(u:P.inits.idxOf? f=none)(r:P.funcs[f]?=some fn)
 (z:∃(w:am)(tape:Tape)(i:Input),w.os=os/\(w.forCall tape i).Shaped P/\i.vars=[]/\Input.okWide P (w.forCall tape i) .any w.heap.size f i/\
  s.preRow enc P fn h apart laid (w.forCall tape i).memory i.args/\a.holds P (lone (Frame.enter P f i.args .normal) [] (w.forCall tape i)))
 (Bc:∀(W:am)(d:Nat)(args:Array av)(b c:List (DataW H))(g:List MemPlace),
  (∀(j:Nat) t v,fn.params[j]?=some t->args[j]?=some v->Value.okWide P W .any d t v)->
  DataW.Whole enc P fn.params.toList s.vars apart W args.toList b c g->
  (∀k,s.cond=some k->k H (b++c)=true)->
  laidMetH P laid W->
  a1 P f args W fun e l=>∃v,e=.returned v/\(s.at F).post enc P fn apart fresh handsOn again W args v l):
 a0 a C os f .any (s.preRow enc P fn h apart laid) ((s.at F).post enc P fn apart fresh handsOn again):=by
 subst q;exact returnsInHanded_of_row x y u r z (fun W d args b c g m n _ o _ p _ _=>Bc W d args b c g m n o p)
theorem SQ{C:aT}{P:ap}(c:C.prog=P){os:Os}{f:ao}{fn:Func}{s:ax}{b:List PathCond}{apart:Bool}{laid:List (String×DataW Unit)}(a:am)(args:Array av)(e:a.os=os)
 (j:(a.forCall (fun _ _=>0) ⟨#[],args,[]⟩).variablesRefB P=true)
 (g:((a.forCall (fun _ _=>0) ⟨#[],args,[]⟩).heap.toList.drop P.globals.size).take ((begin P (fun _ _=>0) default).world.heap.size-P.globals.size)=
  (begin P (fun _ _=>0) default).world.heap.toList.drop P.globals.size)
 (d:Input.okWideB P (a.forCall (fun _ _=>0) ⟨#[],args,[]⟩) f ⟨#[],args,[]⟩=true)
 (h:s.preRow enc P fn b apart laid (a.forCall (fun _ _=>0) ⟨#[],args,[]⟩).memory args):
 ∃(w:am)(tape:Tape)(i:Input),w.os=os/\(w.forCall tape i).Shaped P/\i.vars=[]/\Input.okWide P (w.forCall tape i) .any w.heap.size f i/\
  s.preRow enc P fn b apart laid (w.forCall tape i).memory i.args/\({modest:=false}:Assume).holds P (lone (Frame.enter P f i.args .normal) [] (w.forCall tape i)):=by
 subst c;exact witness_row_atRef (C:=C) false a args e j g d h
theorem WS{p:Pinned}{C:aT}{P:ap}(m:p.checked=C)(n:C.prog=P)(d:Looks){s:ax}{c:OpenClaim}(kinds:List LaidKind)(e:Bool)(a:Bool×String)(b:Bool){g:ao}{i:Func}
 (hc:c.holds p s)(A:c.wfByText s=true)(z:c.laidByTextAt d p kinds e)
 (aI:c.start=.entering)(w:c.noBlocks=false/\c.again=false)(u:P.mainIs=some (a.1,a.2.toList))(v:(!a.1&&a.2.isEmpty&&!b)=false)
 (o:P.funcNamed c.func=some g)(hf:P.funcs[g]?=some i)(r:b=P.looks [])(x:∀t∈i.params.toList,P.wantsStandIn t=false)
 (q:false=c.goesBy P):
 Claim7.holds p (.plain s) {stood:={row:=c,standIns:=[],harness:=a,looks:=b},kinds:=[],alts:=[],laidByText:=true,laidKinds:=kinds,laidTests:=e,laidLooks:=d}:=by
 subst m;subst n;refine Claim7.holds_tied_plain_at d [] kinds e a b hc (fun _ h=>by cases h) A (fun _ h=>by cases h) z aI w u v (fun f fn k l=>?_) q;rw[o]at k;cases k;rw[hf]at l;cases l;exact⟨r,fun j t y=>x t (by simpa using Array.mem_of_getElem? y)⟩
end
theorem Gx:Go.Proofs.YtenbmieafgdjaaaGreatDoor.Tryz.pinned.checked=checked:=rfl
theorem v7:checked.prog=prog:=rfl
theorem az0:true=prog.looks []:=by kernel_rfl
theorem az7:ownKnob prog.godebug=none:=by kernel_rfl
theorem mix:prog.follows .mixedOrders=true:=by kernel_rfl
abbrev nf:ao->Bool:=fun _=>false
theorem Y9:an prog 2 f2:=⟨func2,by kernel_rfl⟩
theorem ZS:an prog 3 f3:=⟨func3,by kernel_rfl⟩
theorem at0:an prog 4 f4:=⟨func4,by kernel_rfl⟩
theorem avK:an prog 5 f5:=⟨func5,by kernel_rfl⟩
theorem awE:an prog 6 f6:=⟨func6,by kernel_rfl⟩
theorem axy:an prog 7 f7:=⟨func7,by kernel_rfl⟩
theorem qO:an prog 8 f8:=⟨func8,by kernel_rfl⟩
theorem axH:an prog 9 f9:=⟨func9,by kernel_rfl⟩
theorem Ny:an prog 10 f10:=⟨func10,by kernel_rfl⟩
theorem Yu:an prog 11 f11:=⟨func11,by kernel_rfl⟩
theorem YC:an prog 12 f12:=⟨func12,by kernel_rfl⟩
theorem Nz:an prog 13 f13:=⟨func13,by kernel_rfl⟩
theorem NA:an prog 14 f14:=⟨func14,by kernel_rfl⟩
theorem ND:an prog 15 f15:=⟨func15,by kernel_rfl⟩
theorem NG:an prog 16 f16:=⟨func16,by kernel_rfl⟩
theorem Y4:an prog 17 f17:=⟨func17,by kernel_rfl⟩
theorem Y5:an prog 18 f18:=⟨func18,by kernel_rfl⟩
theorem NH:an prog 19 f19:=⟨func19,by kernel_rfl⟩
theorem Za:an prog 20 f20:=⟨func20,by kernel_rfl⟩
theorem Zg:an prog 21 f21:=⟨func21,by kernel_rfl⟩
theorem Zj:an prog 22 f22:=⟨func22,by kernel_rfl⟩
theorem Zo:an prog 23 f23:=⟨func23,by kernel_rfl⟩
theorem Zx:an prog 24 f24:=⟨func24,by kernel_rfl⟩
theorem NJ:an prog 25 f25:=⟨func25,by kernel_rfl⟩
theorem NK:an prog 26 f26:=⟨func26,by kernel_rfl⟩
theorem NL:an prog 27 f27:=⟨func27,by kernel_rfl⟩
theorem ZG:an prog 28 f28:=⟨func28,by kernel_rfl⟩
theorem ZO:an prog 29 f29:=⟨func29,by kernel_rfl⟩
theorem ZT:an prog 30 f30:=⟨func30,by kernel_rfl⟩
theorem NO:an prog 31 f31:=⟨func31,by kernel_rfl⟩
theorem abv:an prog 32 f32:=⟨func32,by kernel_rfl⟩
theorem ae9:an prog 33 f33:=⟨func33,by kernel_rfl⟩
theorem ag4:an prog 34 f34:=⟨func34,by kernel_rfl⟩
theorem ai0:an prog 35 f35:=⟨func35,by kernel_rfl⟩
theorem anX:an prog 36 f36:=⟨func36,by kernel_rfl⟩
theorem ap2:an prog 37 f37:=⟨func37,by kernel_rfl⟩
theorem NP:an prog 38 f38:=⟨func38,by kernel_rfl⟩
theorem NQ:an prog 39 f39:=⟨func39,by kernel_rfl⟩
theorem at2:an prog 40 f40:=⟨func40,by kernel_rfl⟩
theorem at3:an prog 41 f41:=⟨func41,by kernel_rfl⟩
theorem auo:an prog 42 f42:=⟨func42,by kernel_rfl⟩
theorem aup:an prog 43 f43:=⟨func43,by kernel_rfl⟩
theorem auw:an prog 44 f44:=⟨func44,by kernel_rfl⟩
theorem auy:an prog 45 f45:=⟨func45,by kernel_rfl⟩
theorem auN:an prog 46 f46:=⟨func46,by kernel_rfl⟩
theorem avH:an prog 47 f47:=⟨func47,by kernel_rfl⟩
theorem rp:an prog 48 f48:=⟨func48,by kernel_rfl⟩
theorem NR:an prog 49 f49:=⟨func49,by kernel_rfl⟩
theorem awt:an prog 50 f50:=⟨func50,by kernel_rfl⟩
theorem NT:an prog 51 f51:=⟨func51,by kernel_rfl⟩
theorem NU:an prog 52 f52:=⟨func52,by kernel_rfl⟩
theorem NW:an prog 53 f53:=⟨func53,by kernel_rfl⟩
theorem awu:an prog 54 f54:=⟨func54,by kernel_rfl⟩
theorem aww:an prog 55 f55:=⟨func55,by kernel_rfl⟩
theorem awy:an prog 56 f56:=⟨func56,by kernel_rfl⟩
theorem awC:an prog 57 f57:=⟨func57,by kernel_rfl⟩
theorem awD:an prog 58 f58:=⟨func58,by kernel_rfl⟩
theorem NX:an prog 59 f59:=⟨func59,by kernel_rfl⟩
theorem aw0:an prog 60 f60:=⟨func60,by kernel_rfl⟩
theorem aw2:an prog 61 f61:=⟨func61,by kernel_rfl⟩
theorem axk:an prog 62 f62:=⟨func62,by kernel_rfl⟩
theorem axn:an prog 63 f63:=⟨func63,by kernel_rfl⟩
theorem axo:an prog 64 f64:=⟨func64,by kernel_rfl⟩
theorem axr:an prog 65 f65:=⟨func65,by kernel_rfl⟩
theorem axs:an prog 66 f66:=⟨func66,by kernel_rfl⟩
theorem axu:an prog 67 f67:=⟨func67,by kernel_rfl⟩
theorem NY:an prog 68 f68:=⟨func68,by kernel_rfl⟩
theorem axw:an prog 69 f69:=⟨func69,by kernel_rfl⟩
theorem axz:an prog 70 f70:=⟨func70,by kernel_rfl⟩
theorem NZ:an prog 71 f71:=⟨func71,by kernel_rfl⟩
theorem N1:an prog 72 f72:=⟨func72,by kernel_rfl⟩
theorem axA:an prog 73 f73:=⟨func73,by kernel_rfl⟩
theorem N2:an prog 74 f74:=⟨func74,by kernel_rfl⟩
theorem N3:an prog 75 f75:=⟨func75,by kernel_rfl⟩
theorem axB:an prog 76 f76:=⟨func76,by kernel_rfl⟩
theorem N4:an prog 77 f77:=⟨func77,by kernel_rfl⟩
theorem axC:an prog 78 f78:=⟨func78,by kernel_rfl⟩
theorem N5:an prog 79 f79:=⟨func79,by kernel_rfl⟩
theorem N6:an prog 80 f80:=⟨func80,by kernel_rfl⟩
theorem N7:an prog 81 f81:=⟨func81,by kernel_rfl⟩
theorem N8:an prog 82 f82:=⟨func82,by kernel_rfl⟩
theorem axE:an prog 83 f83:=⟨func83,by kernel_rfl⟩
theorem N9:an prog 84 f84:=⟨func84,by kernel_rfl⟩
theorem axF:an prog 85 f85:=⟨func85,by kernel_rfl⟩
theorem Oa:an prog 86 f86:=⟨func86,by kernel_rfl⟩
theorem axG:an prog 87 f87:=⟨func87,by kernel_rfl⟩
theorem Ob:an prog 88 f88:=⟨func88,by kernel_rfl⟩
theorem Oc:an prog 89 f89:=⟨func89,by kernel_rfl⟩
theorem Od:an prog 90 f90:=⟨func90,by kernel_rfl⟩
theorem axI:an prog 91 f91:=⟨func91,by kernel_rfl⟩
theorem Oe:an prog 92 f92:=⟨func92,by kernel_rfl⟩
theorem Of:an prog 93 f93:=⟨func93,by kernel_rfl⟩
theorem Og:an prog 94 f94:=⟨func94,by kernel_rfl⟩
theorem Oh:an prog 95 f95:=⟨func95,by kernel_rfl⟩
theorem Oi:an prog 96 f96:=⟨func96,by kernel_rfl⟩
theorem Oj:an prog 97 f97:=⟨func97,by kernel_rfl⟩
theorem C4:an prog 98 f98:=⟨func98,by kernel_rfl⟩
theorem Ok:an prog 99 f99:=⟨func99,by kernel_rfl⟩
theorem Eg:an prog 100 f100:=⟨func100,by kernel_rfl⟩
theorem Ef:an prog 101 f101:=⟨func101,by kernel_rfl⟩
theorem Yo:an prog 102 f102:=⟨func102,by kernel_rfl⟩
theorem Ee:an prog 103 f103:=⟨func103,by kernel_rfl⟩
theorem Yp:an prog 104 f104:=⟨func104,by kernel_rfl⟩
theorem Yq:an prog 105 f105:=⟨func105,by kernel_rfl⟩
theorem Yr:an prog 106 f106:=⟨func106,by kernel_rfl⟩
theorem Ys:an prog 107 f107:=⟨func107,by kernel_rfl⟩
theorem Yt:an prog 108 f108:=⟨func108,by kernel_rfl⟩
theorem EE:an prog 109 f109:=⟨func109,by kernel_rfl⟩
theorem ED:an prog 110 f110:=⟨func110,by kernel_rfl⟩
theorem EC:an prog 111 f111:=⟨func111,by kernel_rfl⟩
theorem EB:an prog 112 f112:=⟨func112,by kernel_rfl⟩
theorem EA:an prog 113 f113:=⟨func113,by kernel_rfl⟩
theorem Yv:an prog 114 f114:=⟨func114,by kernel_rfl⟩
theorem Yw:an prog 115 f115:=⟨func115,by kernel_rfl⟩
theorem Yx:an prog 116 f116:=⟨func116,by kernel_rfl⟩
theorem Yy:an prog 117 f117:=⟨func117,by kernel_rfl⟩
theorem Yz:an prog 118 f118:=⟨func118,by kernel_rfl⟩
theorem YA:an prog 119 f119:=⟨func119,by kernel_rfl⟩
theorem YD:an prog 120 f120:=⟨func120,by kernel_rfl⟩
theorem YE:an prog 121 f121:=⟨func121,by kernel_rfl⟩
theorem YF:an prog 122 f122:=⟨func122,by kernel_rfl⟩
theorem YG:an prog 123 f123:=⟨func123,by kernel_rfl⟩
theorem YH:an prog 124 f124:=⟨func124,by kernel_rfl⟩
theorem YI:an prog 125 f125:=⟨func125,by kernel_rfl⟩
theorem YJ:an prog 126 f126:=⟨func126,by kernel_rfl⟩
theorem YK:an prog 127 f127:=⟨func127,by kernel_rfl⟩
theorem YL:an prog 128 f128:=⟨func128,by kernel_rfl⟩
theorem F3:an prog 129 f129:=⟨func129,by kernel_rfl⟩
theorem F2:an prog 130 f130:=⟨func130,by kernel_rfl⟩
theorem F1:an prog 131 f131:=⟨func131,by kernel_rfl⟩
theorem FL:an prog 132 f132:=⟨func132,by kernel_rfl⟩
theorem FK:an prog 133 f133:=⟨func133,by kernel_rfl⟩
theorem Fc:an prog 134 f134:=⟨func134,by kernel_rfl⟩
theorem YM:an prog 135 f135:=⟨func135,by kernel_rfl⟩
theorem Fb:an prog 136 f136:=⟨func136,by kernel_rfl⟩
theorem YN:an prog 137 f137:=⟨func137,by kernel_rfl⟩
theorem YO:an prog 138 f138:=⟨func138,by kernel_rfl⟩
theorem Fa:an prog 139 f139:=⟨func139,by kernel_rfl⟩
theorem FF:an prog 140 f140:=⟨func140,by kernel_rfl⟩
theorem YP:an prog 141 f141:=⟨func141,by kernel_rfl⟩
theorem FE:an prog 142 f142:=⟨func142,by kernel_rfl⟩
theorem FD:an prog 143 f143:=⟨func143,by kernel_rfl⟩
theorem FC:an prog 144 f144:=⟨func144,by kernel_rfl⟩
theorem YQ:an prog 145 f145:=⟨func145,by kernel_rfl⟩
theorem Mn:an prog 146 f146:=⟨func146,by kernel_rfl⟩
theorem Cq:an prog 147 f147:=⟨func147,by kernel_rfl⟩
theorem YR:an prog 148 f148:=⟨func148,by kernel_rfl⟩
theorem YS:an prog 149 f149:=⟨func149,by kernel_rfl⟩
theorem CJ:an prog 150 f150:=⟨func150,by kernel_rfl⟩
theorem YT:an prog 151 f151:=⟨func151,by kernel_rfl⟩
theorem YU:an prog 152 f152:=⟨func152,by kernel_rfl⟩
theorem YV:an prog 153 f153:=⟨func153,by kernel_rfl⟩
theorem YW:an prog 154 f154:=⟨func154,by kernel_rfl⟩
theorem YX:an prog 155 f155:=⟨func155,by kernel_rfl⟩
theorem YY:an prog 156 f156:=⟨func156,by kernel_rfl⟩
theorem FB:an prog 157 f157:=⟨func157,by kernel_rfl⟩
theorem FA:an prog 158 f158:=⟨func158,by kernel_rfl⟩
theorem Fz:an prog 159 f159:=⟨func159,by kernel_rfl⟩
theorem Fy:an prog 160 f160:=⟨func160,by kernel_rfl⟩
theorem Fx:an prog 161 f161:=⟨func161,by kernel_rfl⟩
theorem MK:an prog 162 f162:=⟨func162,by kernel_rfl⟩
theorem MJ:an prog 163 f163:=⟨func163,by kernel_rfl⟩
theorem MI:an prog 164 f164:=⟨func164,by kernel_rfl⟩
theorem YZ:an prog 165 f165:=⟨func165,by kernel_rfl⟩
theorem Y0:an prog 166 f166:=⟨func166,by kernel_rfl⟩
theorem Y1:an prog 167 f167:=⟨func167,by kernel_rfl⟩
theorem Y2:an prog 168 f168:=⟨func168,by kernel_rfl⟩
theorem Y3:an prog 169 f169:=⟨func169,by kernel_rfl⟩
theorem MH:an prog 170 f170:=⟨func170,by kernel_rfl⟩
theorem MG:an prog 171 f171:=⟨func171,by kernel_rfl⟩
theorem MF:an prog 172 f172:=⟨func172,by kernel_rfl⟩
theorem ME:an prog 173 f173:=⟨func173,by kernel_rfl⟩
theorem MD:an prog 174 f174:=⟨func174,by kernel_rfl⟩
theorem Ez:an prog 175 f175:=⟨func175,by kernel_rfl⟩
theorem Ey:an prog 176 f176:=⟨func176,by kernel_rfl⟩
theorem Ex:an prog 177 f177:=⟨func177,by kernel_rfl⟩
theorem Ew:an prog 178 f178:=⟨func178,by kernel_rfl⟩
theorem Ev:an prog 179 f179:=⟨func179,by kernel_rfl⟩
theorem Eu:an prog 180 f180:=⟨func180,by kernel_rfl⟩
theorem Et:an prog 181 f181:=⟨func181,by kernel_rfl⟩
theorem Es:an prog 182 f182:=⟨func182,by kernel_rfl⟩
theorem Y6:an prog 183 f183:=⟨func183,by kernel_rfl⟩
theorem Y7:an prog 184 f184:=⟨func184,by kernel_rfl⟩
theorem Y8:an prog 185 f185:=⟨func185,by kernel_rfl⟩
theorem Er:an prog 186 f186:=⟨func186,by kernel_rfl⟩
theorem Ep:an prog 187 f187:=⟨func187,by kernel_rfl⟩
theorem zJ:an prog 188 f188:=⟨func188,by kernel_rfl⟩
theorem Eo:an prog 189 f189:=⟨func189,by kernel_rfl⟩
theorem MC:an prog 190 f190:=⟨func190,by kernel_rfl⟩
theorem En:an prog 191 f191:=⟨func191,by kernel_rfl⟩
theorem MB:an prog 192 f192:=⟨func192,by kernel_rfl⟩
theorem Em:an prog 193 f193:=⟨func193,by kernel_rfl⟩
theorem El:an prog 194 f194:=⟨func194,by kernel_rfl⟩
theorem Ek:an prog 195 f195:=⟨func195,by kernel_rfl⟩
theorem Ej:an prog 196 f196:=⟨func196,by kernel_rfl⟩
theorem MA:an prog 197 f197:=⟨func197,by kernel_rfl⟩
theorem Mz:an prog 198 f198:=⟨func198,by kernel_rfl⟩
theorem Fw:an prog 199 f199:=⟨func199,by kernel_rfl⟩
theorem Fv:an prog 200 f200:=⟨func200,by kernel_rfl⟩
theorem Fu:an prog 201 f201:=⟨func201,by kernel_rfl⟩
theorem Ft:an prog 202 f202:=⟨func202,by kernel_rfl⟩
theorem Zb:an prog 203 f203:=⟨func203,by kernel_rfl⟩
theorem Zc:an prog 204 f204:=⟨func204,by kernel_rfl⟩
theorem Zd:an prog 205 f205:=⟨func205,by kernel_rfl⟩
theorem Ze:an prog 206 f206:=⟨func206,by kernel_rfl⟩
theorem Fs:an prog 207 f207:=⟨func207,by kernel_rfl⟩
theorem Zf:an prog 208 f208:=⟨func208,by kernel_rfl⟩
theorem D4:an prog 209 f209:=⟨func209,by kernel_rfl⟩
theorem D3:an prog 210 f210:=⟨func210,by kernel_rfl⟩
theorem vK:an prog 211 f211:=⟨func211,by kernel_rfl⟩
theorem zP:an prog 212 f212:=⟨func212,by kernel_rfl⟩
theorem FJ:an prog 213 f213:=⟨func213,by kernel_rfl⟩
theorem FI:an prog 214 f214:=⟨func214,by kernel_rfl⟩
theorem DR:an prog 215 f215:=⟨func215,by kernel_rfl⟩
theorem zO:an prog 216 f216:=⟨func216,by kernel_rfl⟩
theorem FH:an prog 217 f217:=⟨func217,by kernel_rfl⟩
theorem Zh:an prog 218 f218:=⟨func218,by kernel_rfl⟩
theorem Zi:an prog 219 f219:=⟨func219,by kernel_rfl⟩
theorem Fq:an prog 220 f220:=⟨func220,by kernel_rfl⟩
theorem Fp:an prog 221 f221:=⟨func221,by kernel_rfl⟩
theorem Fo:an prog 222 f222:=⟨func222,by kernel_rfl⟩
theorem Fm:an prog 223 f223:=⟨func223,by kernel_rfl⟩
theorem Fl:an prog 224 f224:=⟨func224,by kernel_rfl⟩
theorem Fk:an prog 225 f225:=⟨func225,by kernel_rfl⟩
theorem Zk:an prog 226 f226:=⟨func226,by kernel_rfl⟩
theorem Zl:an prog 227 f227:=⟨func227,by kernel_rfl⟩
theorem Zm:an prog 228 f228:=⟨func228,by kernel_rfl⟩
theorem Zn:an prog 229 f229:=⟨func229,by kernel_rfl⟩
theorem My:an prog 230 f230:=⟨func230,by kernel_rfl⟩
theorem Zp:an prog 231 f231:=⟨func231,by kernel_rfl⟩
theorem Zq:an prog 232 f232:=⟨func232,by kernel_rfl⟩
theorem Zr:an prog 233 f233:=⟨func233,by kernel_rfl⟩
theorem Zs:an prog 234 f234:=⟨func234,by kernel_rfl⟩
theorem Zt:an prog 235 f235:=⟨func235,by kernel_rfl⟩
theorem Zu:an prog 236 f236:=⟨func236,by kernel_rfl⟩
theorem Zv:an prog 237 f237:=⟨func237,by kernel_rfl⟩
theorem Zw:an prog 238 f238:=⟨func238,by kernel_rfl⟩
theorem LJ:an prog 239 f239:=⟨func239,by kernel_rfl⟩
theorem CG:an prog 240 f240:=⟨func240,by kernel_rfl⟩
theorem D2:an prog 241 f241:=⟨func241,by kernel_rfl⟩
theorem Fj:an prog 242 f242:=⟨func242,by kernel_rfl⟩
theorem Fi:an prog 243 f243:=⟨func243,by kernel_rfl⟩
theorem Fh:an prog 244 f244:=⟨func244,by kernel_rfl⟩
theorem yP:an prog 245 f245:=⟨func245,by kernel_rfl⟩
theorem JR:an prog 246 f246:=⟨func246,by kernel_rfl⟩
theorem CF:an prog 247 f247:=⟨func247,by kernel_rfl⟩
theorem K5:an prog 248 f248:=⟨func248,by kernel_rfl⟩
theorem vf:an prog 249 f249:=⟨func249,by kernel_rfl⟩
theorem LI:an prog 250 f250:=⟨func250,by kernel_rfl⟩
theorem LH:an prog 251 f251:=⟨func251,by kernel_rfl⟩
theorem E5:an prog 252 f252:=⟨func252,by kernel_rfl⟩
theorem LG:an prog 253 f253:=⟨func253,by kernel_rfl⟩
theorem LF:an prog 254 f254:=⟨func254,by kernel_rfl⟩
theorem Zy:an prog 255 f255:=⟨func255,by kernel_rfl⟩
theorem LS:an prog 256 f256:=⟨func256,by kernel_rfl⟩
theorem LR:an prog 257 f257:=⟨func257,by kernel_rfl⟩
theorem LQ:an prog 258 f258:=⟨func258,by kernel_rfl⟩
theorem LP:an prog 259 f259:=⟨func259,by kernel_rfl⟩
theorem D1:an prog 260 f260:=⟨func260,by kernel_rfl⟩
theorem DQ:an prog 261 f261:=⟨func261,by kernel_rfl⟩
theorem D0:an prog 262 f262:=⟨func262,by kernel_rfl⟩
theorem Zz:an prog 263 f263:=⟨func263,by kernel_rfl⟩
theorem zG:an prog 264 f264:=⟨func264,by kernel_rfl⟩
theorem DZ:an prog 265 f265:=⟨func265,by kernel_rfl⟩
theorem DY:an prog 266 f266:=⟨func266,by kernel_rfl⟩
theorem zF:an prog 267 f267:=⟨func267,by kernel_rfl⟩
theorem ZA:an prog 268 f268:=⟨func268,by kernel_rfl⟩
theorem D9:an prog 269 f269:=⟨func269,by kernel_rfl⟩
theorem ZC:an prog 270 f270:=⟨func270,by kernel_rfl⟩
theorem K4:an prog 271 f271:=⟨func271,by kernel_rfl⟩
theorem D8:an prog 272 f272:=⟨func272,by kernel_rfl⟩
theorem LO:an prog 273 f273:=⟨func273,by kernel_rfl⟩
theorem E4:an prog 274 f274:=⟨func274,by kernel_rfl⟩
theorem ZD:an prog 275 f275:=⟨func275,by kernel_rfl⟩
theorem ZE:an prog 276 f276:=⟨func276,by kernel_rfl⟩
theorem ZF:an prog 277 f277:=⟨func277,by kernel_rfl⟩
theorem D7:an prog 278 f278:=⟨func278,by kernel_rfl⟩
theorem ZH:an prog 280 f280:=⟨func280,by kernel_rfl⟩
theorem ZI:an prog 281 f281:=⟨func281,by kernel_rfl⟩
theorem ZJ:an prog 282 f282:=⟨func282,by kernel_rfl⟩
theorem ZK:an prog 283 f283:=⟨func283,by kernel_rfl⟩
theorem ZL:an prog 284 f284:=⟨func284,by kernel_rfl⟩
theorem ZM:an prog 285 f285:=⟨func285,by kernel_rfl⟩
theorem E3:an prog 286 f286:=⟨func286,by kernel_rfl⟩
theorem E0:an prog 287 f287:=⟨func287,by kernel_rfl⟩
theorem EZ:an prog 288 f288:=⟨func288,by kernel_rfl⟩
theorem ZN:an prog 289 f289:=⟨func289,by kernel_rfl⟩
theorem EY:an prog 291 f291:=⟨func291,by kernel_rfl⟩
theorem LN:an prog 293 f293:=⟨func293,by kernel_rfl⟩
theorem LM:an prog 294 f294:=⟨func294,by kernel_rfl⟩
theorem LL:an prog 295 f295:=⟨func295,by kernel_rfl⟩
theorem CI:an prog 296 f296:=⟨func296,by kernel_rfl⟩
theorem ZP:an prog 297 f297:=⟨func297,by kernel_rfl⟩
theorem ZQ:an prog 298 f298:=⟨func298,by kernel_rfl⟩
theorem ZR:an prog 299 f299:=⟨func299,by kernel_rfl⟩
theorem ZU:an prog 300 f300:=⟨func300,by kernel_rfl⟩
theorem ZV:an prog 301 f301:=⟨func301,by kernel_rfl⟩
theorem ZW:an prog 302 f302:=⟨func302,by kernel_rfl⟩
theorem ZX:an prog 303 f303:=⟨func303,by kernel_rfl⟩
theorem ZY:an prog 304 f304:=⟨func304,by kernel_rfl⟩
theorem ZZ:an prog 305 f305:=⟨func305,by kernel_rfl⟩
theorem CH:an prog 306 f306:=⟨func306,by kernel_rfl⟩
theorem Z0:an prog 307 f307:=⟨func307,by kernel_rfl⟩
theorem Z1:an prog 308 f308:=⟨func308,by kernel_rfl⟩
theorem Z2:an prog 309 f309:=⟨func309,by kernel_rfl⟩
theorem Z3:an prog 310 f310:=⟨func310,by kernel_rfl⟩
theorem Z4:an prog 311 f311:=⟨func311,by kernel_rfl⟩
theorem Z5:an prog 312 f312:=⟨func312,by kernel_rfl⟩
theorem Z6:an prog 313 f313:=⟨func313,by kernel_rfl⟩
theorem Z7:an prog 315 f315:=⟨func315,by kernel_rfl⟩
theorem LK:an prog 316 f316:=⟨func316,by kernel_rfl⟩
theorem Z8:an prog 317 f317:=⟨func317,by kernel_rfl⟩
theorem Z9:an prog 318 f318:=⟨func318,by kernel_rfl⟩
theorem aba:an prog 319 f319:=⟨func319,by kernel_rfl⟩
theorem abw:an prog 320 f320:=⟨func320,by kernel_rfl⟩
theorem acH:an prog 321 f321:=⟨func321,by kernel_rfl⟩
theorem adY:an prog 322 f322:=⟨func322,by kernel_rfl⟩
theorem ad1:an prog 323 f323:=⟨func323,by kernel_rfl⟩
theorem aea:an prog 324 f324:=⟨func324,by kernel_rfl⟩
theorem aej:an prog 325 f325:=⟨func325,by kernel_rfl⟩
theorem aeF:an prog 326 f326:=⟨func326,by kernel_rfl⟩
theorem aeK:an prog 327 f327:=⟨func327,by kernel_rfl⟩
theorem aeQ:an prog 328 f328:=⟨func328,by kernel_rfl⟩
theorem aeT:an prog 329 f329:=⟨func329,by kernel_rfl⟩
theorem Md:an prog 330 f330:=⟨func330,by kernel_rfl⟩
theorem afF:an prog 331 f331:=⟨func331,by kernel_rfl⟩
theorem Mc:an prog 332 f332:=⟨func332,by kernel_rfl⟩
theorem EX:an prog 333 f333:=⟨func333,by kernel_rfl⟩
theorem afL:an prog 334 f334:=⟨func334,by kernel_rfl⟩
theorem afO:an prog 335 f335:=⟨func335,by kernel_rfl⟩
theorem Mb:an prog 336 f336:=⟨func336,by kernel_rfl⟩
theorem afP:an prog 337 f337:=⟨func337,by kernel_rfl⟩
theorem afQ:an prog 338 f338:=⟨func338,by kernel_rfl⟩
theorem agt:an prog 339 f339:=⟨func339,by kernel_rfl⟩
theorem ahl:an prog 340 f340:=⟨func340,by kernel_rfl⟩
theorem ahm:an prog 341 f341:=⟨func341,by kernel_rfl⟩
theorem aht:an prog 342 f342:=⟨func342,by kernel_rfl⟩
theorem ahU:an prog 343 f343:=⟨func343,by kernel_rfl⟩
theorem air:an prog 344 f344:=⟨func344,by kernel_rfl⟩
theorem ais:an prog 345 f345:=⟨func345,by kernel_rfl⟩
theorem aiE:an prog 346 f346:=⟨func346,by kernel_rfl⟩
theorem aiN:an prog 347 f347:=⟨func347,by kernel_rfl⟩
theorem EW:an prog 348 f348:=⟨func348,by kernel_rfl⟩
theorem Ma:an prog 349 f349:=⟨func349,by kernel_rfl⟩
theorem aja:an prog 350 f350:=⟨func350,by kernel_rfl⟩
theorem ajN:an prog 351 f351:=⟨func351,by kernel_rfl⟩
theorem ajY:an prog 352 f352:=⟨func352,by kernel_rfl⟩
theorem akw:an prog 354 f354:=⟨func354,by kernel_rfl⟩
theorem akR:an prog 355 f355:=⟨func355,by kernel_rfl⟩
theorem ak3:an prog 356 f356:=⟨func356,by kernel_rfl⟩
theorem al6:an prog 357 f357:=⟨func357,by kernel_rfl⟩
theorem amY:an prog 358 f358:=⟨func358,by kernel_rfl⟩
theorem anS:an prog 359 f359:=⟨func359,by kernel_rfl⟩
theorem anY:an prog 360 f360:=⟨func360,by kernel_rfl⟩
theorem aob:an prog 362 f362:=⟨func362,by kernel_rfl⟩
theorem aof:an prog 363 f363:=⟨func363,by kernel_rfl⟩
theorem aog:an prog 364 f364:=⟨func364,by kernel_rfl⟩
theorem aoi:an prog 365 f365:=⟨func365,by kernel_rfl⟩
theorem apb:an prog 366 f366:=⟨func366,by kernel_rfl⟩
theorem apV:an prog 367 f367:=⟨func367,by kernel_rfl⟩
theorem ap1:an prog 369 f369:=⟨func369,by kernel_rfl⟩
theorem aqk:an prog 370 f370:=⟨func370,by kernel_rfl⟩
theorem ara:an prog 371 f371:=⟨func371,by kernel_rfl⟩
theorem L9:an prog 372 f372:=⟨func372,by kernel_rfl⟩
theorem ari:an prog 373 f373:=⟨func373,by kernel_rfl⟩
theorem arD:an prog 374 f374:=⟨func374,by kernel_rfl⟩
theorem arE:an prog 376 f376:=⟨func376,by kernel_rfl⟩
theorem arK:an prog 377 f377:=⟨func377,by kernel_rfl⟩
theorem arN:an prog 378 f378:=⟨func378,by kernel_rfl⟩
theorem arS:an prog 379 f379:=⟨func379,by kernel_rfl⟩
theorem arX:an prog 380 f380:=⟨func380,by kernel_rfl⟩
theorem asf:an prog 381 f381:=⟨func381,by kernel_rfl⟩
theorem asS:an prog 382 f382:=⟨func382,by kernel_rfl⟩
theorem asT:an prog 383 f383:=⟨func383,by kernel_rfl⟩
theorem asU:an prog 384 f384:=⟨func384,by kernel_rfl⟩
theorem as0:an prog 385 f385:=⟨func385,by kernel_rfl⟩
theorem ati:an prog 386 f386:=⟨func386,by kernel_rfl⟩
theorem ato:an prog 387 f387:=⟨func387,by kernel_rfl⟩
theorem aty:an prog 388 f388:=⟨func388,by kernel_rfl⟩
theorem aug:an prog 419 f419:=⟨func419,by kernel_rfl⟩
set_option maxHeartbeats 4000000
set_option maxRecDepth 100000
def wB:Nat:=18446744073709551616
theorem pV(x y c:Nat)(hc:c<=1):az prog 290 [.int .u64 x,.int .u64 y,.int .u64 c] (.aC [.int .u64 ((x+y+c)% wB:Nat),.int .u64 ((x+y+c)/wB:Nat)]):=by
 refine .inr fun w aa a h=>?_;simp only[bg,aw]at h;obtain⟨_,_,rfl,rfl,_,_,rfl,rfl,_,_,rfl,rfl,rfl⟩:=h;refine⟨.tuple #[.int .u64 ((x+y+c)% wB:Nat),.int .u64 ((x+y+c)/wB:Nat)],?_,?_⟩
 ·show(callFunc 290 #[.int .u64 x,.int .u64 y,.int .u64 c]).run prog w=_;rw[ay func290 (by kernel_rfl) (by kernel_rfl) (by kernel_rfl) (e:=add64Entry) (by kernel_rfl),run_add64 x y c (by omega) (by omega) (by omega) (by omega)];simp only[Result.andThen,wB];congr 5<;>omega
 ·simp only[aw,bg];exact⟨[.int .u64 ((x+y+c)% wB:Nat),.int .u64 ((x+y+c)/wB:Nat)],⟨_,_,rfl,rfl,_,_,rfl,rfl,rfl⟩,rfl⟩
theorem WJ(x y c:Nat)(hc:c<=1):az prog 292 [.int .u64 x,.int .u64 y,.int .u64 c] (.aC [.int .u64 ((x+wB-y-c)% wB:Nat),.int .u64 ((if x<y+c then 1 else 0:Nat):Int)]):=by
 refine .inr fun w aa a h=>?_;simp only[bg,aw]at h;obtain⟨_,_,rfl,rfl,_,_,rfl,rfl,_,_,rfl,rfl,rfl⟩:=h;refine⟨.tuple #[.int .u64 ((x+wB-y-c)% wB:Nat),.int .u64 ((if x<y+c then 1 else 0:Nat):Int)],?_,?_⟩
 ·show(callFunc 292 #[.int .u64 x,.int .u64 y,.int .u64 c]).run prog w=_;rw[ay func292 (by kernel_rfl) (by kernel_rfl) (by kernel_rfl) (e:=sub64Entry) (by kernel_rfl),run_sub64 x y c hc];rfl
 ·simp only[aw,bg];exact⟨[.int .u64 ((x+wB-y-c)% wB:Nat),.int .u64 ((if x<y+c then 1 else 0:Nat):Int)],⟨_,_,rfl,rfl,_,_,rfl,rfl,rfl⟩,rfl⟩
def mA(B:Nat):Nat->Nat->List Nat
 |0,_=>[]
 |f+1,n=>if n=0 then[]else n% B::mA B f (n/B)
def aq(B n:Nat):List Nat:=mA B (n+1) n
def iy(B:Nat):List Nat->Nat
 |[]=>0
 |d::l=>d+B*iy B l
def ae(B n i:Nat):Nat:=n/B^i% B
section
variable{B:Nat}
theorem GX(a:2<=B):∀(f g n:Nat),n<f->n<g->mA B f n=mA B g n
 |0,_,_,h,_=>by omega
 |_,0,_,_,h=>by omega
 |f+1,g+1,n,b,c=>by
  simp only[mA]
  split
  ·rfl
  ·rename_i d;have:n/B<n:=e8 (by omega) (by omega);rw[GX a f g (n/B) (by omega) (by omega)]
theorem l7:aq B 0=[]:=by simp[aq,mA]
theorem sf(a:2<=B){n:Nat}(h:n≠0):aq B n=n% B::aq B (n/B):=by
 have:n/B<n:=e8 (by omega) (by omega);rw[aq,mA,if_neg h,aq,GX a n (n/B+1) (n/B) this (by omega)]
theorem IW(a:2<=B)(n:Nat):iy B (aq B n)=n:=by
 induction n using gt with
 |ind n b=>
  by_cases h:n=0
  ·subst h;simp[l7,iy]
  ·rw[sf a h,iy,b _ (e8 (by omega) (by omega))];exact dk n B
theorem Xx(a:2<=B):∀(i n:Nat),(aq B n)[i]?.getD 0=ae B n i
 |i,n=>by
  induction i generalizing n with
  |zero=>
   by_cases h:n=0
   ·subst h;simp[l7,ae]
   ·rw[sf a h];simp[ae]
  |succ i b=>
   by_cases h:n=0
   ·subst h;simp[l7,ae]
   ·rw[sf a h,List.getElem?_cons_succ,b];simp only[ae,cv,cy];rw[ce B]
theorem eg(a:2<=B){n i:Nat}(h:i<(aq B n).length):(aq B n)[i]=ae B n i:=by
 have:=Xx a i n;rw[List.getElem?_eq_getElem h]at this;exact this
theorem cj(b:2<=B)(n:Nat):n<B^(aq B n).length:=by
 induction n using gt with
 |ind n c=>
  by_cases h:n=0
  ·subst h;simp[l7]
  ·rw[sf b h,b2,cy];have:=c _ (e8 (n:=n) (k:=B) (by omega) (by omega));have d:=dk n B;have e:=dp n (show 0<B by omega);have a:(n/B+1)*B<=B^(aq B (n/B)).length*B:=c9 B this;rw[eb,ce (n/B) B]at a;omega
theorem dK(b:2<=B):∀(k n:Nat),n<B^k->(aq B n).length<=k
 |0,n,h=>by
  have:n=0:=by simpa using h
  subst this;simp[l7]
 |k+1,n,h=>by
  by_cases a:n=0
  ·subst a;simp[l7]
  ·rw[sf b a,b2];have:=dK b k (n/B) (by
    rw[ck (by omega),<-cy];exact h)
   omega
theorem HB(a:2<=B){k n:Nat}(h:B^k<=n):k<(aq B n).length:=by
 have:=cj a n;exact(Nat.pow_lt_pow_iff_right (by omega:1<B)).1 (ed h this)
def dW:List Nat->List Nat
 |[]=>[]
 |d::l=>match dW l with
  |[]=>if d=0 then[]else[d]
  |t=>d::t
theorem BK(a:2<=B):∀{l:List Nat},(∀d∈l,d<B)->aq B (iy B l)=dW l
 |[],_=>by simp[iy,l7,dW]
 |d::l,h=>by
  have c:=BK a (l:=l) fun x hx=>h x (List.mem_cons_of_mem _ hx);have f:=h d List.mem_cons_self;simp only[dW,iy]
  by_cases b:d+B*iy B l=0
  ·have k:d=0:=by omega
   have m:iy B l=0:=by
    rcases Nat.mul_eq_zero.1 (show B*iy B l=0 by omega)with e|e
    ·omega
    ·exact e
   rw[b,l7,<-c,m,l7];simp[k]
  ·rw[sf a b];have e1:(d+B*iy B l)% B=d:=by rw[eq,cx f]
   have e2:(d+B*iy B l)/B=iy B l:=by
    rw[db _ _ (by omega),da f,g0]
   rw[e1,e2,c]
   split
   ·rename_i g;have i:=c;rw[g,j a]at i;rw[if_neg (by rw[i]at b;simpa using b),g]
   ·rfl
where j (a:2<=B) {n:Nat}:(aq B n=[])=(n=0):=by
        apply propext;constructor
        ·intro h;rw[<-IW a n,h];rfl
        ·rintro rfl;exact l7
def row(B m n:Nat):List Nat:=(a7 m).map (ae B n)
theorem KA{m n:Nat}:(row B m n).length=m:=by simp[row]
theorem Vg(m n:Nat):row B (m+1) n=n% B::row B m (n/B):=by
 rw[row,List.range_succ_eq_map,bk,bl];congr 1
 ·simp[ae]
 ·rw[row];apply bo;intro i _;simp only[Function.comp,ae,cv,cy];rw[ce]
theorem Kz(a:2<=B):∀(m n:Nat),iy B (row B m n)=n% B^m
 |0,n=>by simp[row,iy,e6]
 |m+1,n=>by
  rw[Vg,iy,Kz a m,cy,ce (B^m),ga]
theorem jg(a:2<=B){m n:Nat}(h:n<B^m):dW (row B m n)=aq B n:=by
 rw[<-BK a (l:=row B m n),Kz a,cx h];intro d b;simp only[row,bi]at b;obtain⟨i,_,rfl⟩:=b;exact dp _ (by omega)
theorem Xy(b:2<=B)(n:Nat):aq B n=row B (aq B n).length n:=by
 apply a8 (by simp[row]);intro i a c;rw[eg b a];simp[row]
end
section
variable{B:Nat}
theorem mod_pow_succ(n i:Nat):n% B^(i+1)=n% B^i+B^i*ae B n i:=by
 rw[cy,ga,ae]
def dc(B a b i:Nat):Nat:=(a% B^i+b% B^i)/B^i
theorem wG(a b:Nat):dc B a b 0=0:=by simp[dc,e6]
theorem lh(f:2<=B)(a b i:Nat):dc B a b i<=1:=by
 have c:0<B^i:=c6 (by omega);have d:=dp a c;have e:=dp b c;rw[dc];have:(a% B^i+b% B^i)/B^i<2:=by rw[ck c];omega
 omega
theorem pA(e:2<=B)(a b i:Nat):(ae B a i+ae B b i+dc B a b i)% B=ae B (a+b) i/\(ae B a i+ae B b i+dc B a b i)/B=dc B a b (i+1):=by
 have c:0<B^i:=c6 (by omega);constructor
 ·have d:(a+b)/B^i=dc B a b i+(a/B^i+b/B^i):=by
   rw[dc]
   conv=>lhs;rw[<-dk a (B^i),<-dk b (B^i)]
   rw[show a% B^i+B^i*(a/B^i)+(b% B^i+B^i*(b/B^i))=(a% B^i+b% B^i)+B^i*(a/B^i+b/B^i)by rw[ea];omega];rw[db _ _ c]
  rw[ae,ae,ae,d,fv,<-fv (a/B^i),<-fv,e7]
 ·conv=>rhs;rw[dc,mod_pow_succ,mod_pow_succ,cy,<-cv]
  rw[show a% B^i+B^i*ae B a i+(b% B^i+B^i*ae B b i)=(a% B^i+b% B^i)+B^i*(ae B a i+ae B b i)by rw[ea];omega];rw[db _ _ c,dc,e7 ((a% B^i+b% B^i)/B^i)]
theorem jf{n i:Nat}(h:n<B^i):ae B n i=0:=by
 rw[ae,da h,Nat.zero_mod]
theorem cq(a:2<=B)(n i:Nat):ae B n i<B:=dp _ (by omega)
def eM(B a b i:Nat):Nat:=if a% B^i<b% B^i then 1 else 0
theorem Af(a b:Nat):eM B a b 0=0:=by simp[eM,e6]
theorem I3(d:2<=B){a b:Nat}(k:b<=a)(i:Nat):
 (ae B a i<ae B b i+eM B a b i/\eM B a b (i+1)=1/\ae B a i+B=ae B (a-b) i+(ae B b i+eM B a b i))\/
 (ae B b i+eM B a b i<=ae B a i/\eM B a b (i+1)=0/\ae B a i=ae B (a-b) i+(ae B b i+eM B a b i)):=by
 have g:0<B^i:=c6 (by omega);obtain⟨c,rfl⟩:=Nat.le.dest k;have j:=pA d b c i;rw[show b+c-b=c by omega];have hc:∀i,eM B (b+c) b i=dc B b c i:=by
  intro i;have g:0<B^i:=c6 (by omega);have l:=dp b g;have m:=dp c g;rw[eM,dc,fv]
  by_cases h:b% B^i+c% B^i<B^i
  ·rw[cx h,da h,if_neg (Nat.not_lt.2 (Nat.le_add_right _ _))]
  ·have e1:(b% B^i+c% B^i)/B^i=1:=by
    rw[show b% B^i+c% B^i=(b% B^i+c% B^i-B^i)+B^i*1 by omega,db _ _ g,da (by omega)]
   have e2:(b% B^i+c% B^i)% B^i=b% B^i+c% B^i-B^i:=by
    rw[Nat.mod_eq_sub_mod (by omega),cx (by omega)]
   rw[e1,e2,if_pos (by omega)]
 rw[hc,hc];have n:=cq d b i;have o:=cq d c i;have p:=lh d b c i;have f:=dk (ae B b i+ae B c i+dc B b c i) B;rw[j.1,j.2]at f;have q:=lh d b c (i+1);have r:=cq d (b+c) i;rcases(show dc B b c (i+1)=0\/dc B b c (i+1)=1 by omega)with e|e
 ·right;rw[e]at f⊢;simp at f;exact⟨by omega,rfl,by omega⟩
 ·left;rw[e]at f⊢;simp at f;exact⟨by omega,rfl,by omega⟩
def iv(B a b i j:Nat):Nat:=(a% B^i)*b+ae B a i*(b% B^j)*B^i
def dd(B a b i j k:Nat):Nat:=if k<i+j then ae B (iv B a b i j) k else ae B ((a% B^i)*b) k
def mulC(B a b i j:Nat):Nat:=iv B a b i j/B^(i+j)-(a% B^i)*b/B^(i+j)
theorem azr(a b i j:Nat):(a% B^i)*b<=iv B a b i j:=by rw[iv];omega
theorem HX(a b i:Nat):iv B a b i 0=(a% B^i)*b:=by simp[iv,e6]
theorem Az(a b i:Nat):mulC B a b i 0=0:=by simp[mulC,HX]
theorem HZ(a b i j:Nat):iv B a b i (j+1)=iv B a b i j+ae B a i*ae B b j*B^(i+j):=by
 rw[iv,iv,mod_pow_succ,ea,eb,ew];have:ae B a i*(B^j*ae B b j)*B^i=ae B a i*ae B b j*(B^i*B^j):=by
  rw[ce (B^j),<-dg,dg,ce (B^j)]
 omega
theorem JF(a b i:Nat){n:Nat}(h:b<B^n):iv B a b i n=(a% B^(i+1))*b:=by
 rw[iv,cx h,mod_pow_succ,eb];congr 1;rw[ge,ce (ae B a i)]
theorem vZ(n k:Nat):n/B^(k+1)=n/B^k/B:=by rw[cy,cv]
theorem Bl(g:2<=B)(a b i j:Nat):
 (ae B a i*ae B b j+dd B a b i j (i+j)+mulC B a b i j)% B=ae B (iv B a b i (j+1)) (i+j)/\
 (ae B a i*ae B b j+dd B a b i j (i+j)+mulC B a b i j)/B=mulC B a b i (j+1):=by
 have f:0<B^(i+j):=c6 (by omega);have d:iv B a b i (j+1)/B^(i+j)=iv B a b i j/B^(i+j)+ae B a i*ae B b j:=by
  rw[HZ,ee _ _ f]
 have h:(a% B^i)*b/B^(i+j)<=iv B a b i j/B^(i+j):=fb (azr a b i j);have c:dd B a b i j (i+j)=(a% B^i)*b/B^(i+j)% B:=by rw[dd,if_neg (by omega),ae]
 have e:ae B a i*ae B b j+dd B a b i j (i+j)+mulC B a b i j+B*((a% B^i)*b/B^(i+j)/B)=iv B a b i (j+1)/B^(i+j):=by
  rw[d,c,mulC];have:=dk ((a% B^i)*b/B^(i+j)) B;omega
 constructor
 ·conv=>rhs;rw[ae,<-e]
  rw[eq]
 ·conv=>rhs;rw[mulC,show i+(j+1)=i+j+1 from rfl,vZ,vZ,<-e,db _ _ (by omega)]
  rw[gi]
theorem H3(f:2<=B){a b i j k:Nat}(hk:k≠i+j):dd B a b i (j+1) k=dd B a b i j k:=by
 rw[dd,dd]
 by_cases h:k<i+j
 ·rw[if_pos (by omega),if_pos h,HZ];have e:0<B^k:=c6 (by omega);obtain⟨d,c⟩:∃d,i+j=k+1+d:=⟨i+j-(k+1),by
   have:k+1<=i+j:=h;rw[Nat.add_sub_cancel' this]⟩
  rw[c,ew,cy];generalize ae B a i*ae B b j=x;rw[ae,ae,show x*(B^k*B*B^d)=x*B^d*B*B^k by simp only[dg,ce,gj]];rw[ee _ _ e,eo]
 ·rw[if_neg (by omega),if_neg h]
theorem JG(a b i j:Nat):dd B a b i (j+1) (i+j)=ae B (iv B a b i (j+1)) (i+j):=by
 rw[dd,if_pos (by omega)]
theorem uw(d:2<=B)(a:Nat){b n:Nat}(i:Nat)(h:b<B^n):(a% B^i)*b<B^(i+n):=by
 have c:0<B^i:=c6 (by omega);rw[ew];exact ei (dp _ c) h
theorem GF(c:2<=B){a b i n:Nat}(h:b<B^n):mulC B a b i n=ae B ((a% B^(i+1))*b) (i+n):=by
 have h1:=uw c a i h;have d:=uw c a (i+1) h;rw[mulC,JF a b i h,da h1,Nat.sub_zero];refine(cx ?_).symm;rw[ck (c6 (by omega)),ce B,<-cy,show(i+n).succ=i+1+n by omega];exact d
theorem ou(a b i k:Nat):dd B a b i 0 k=ae B ((a% B^i)*b) k:=by
 rw[dd,HX];split<;>rfl
theorem JH(c:2<=B){a b i n k:Nat}(h:b<B^n)(hk:k≠i+n):dd B a b i n k=ae B ((a% B^(i+1))*b) k:=by
 rw[dd]
 split
 ·rw[JF a b i h]
 ·rename_i h1;have e1:(a% B^i)*b<B^k:=ec (uw c a i h) (ej (by omega) (by omega));have e2:(a% B^(i+1))*b<B^k:=ec (uw c a (i+1) h) (ej (by omega) (by omega));rw[jf e1,jf e2]
theorem sd(d:2<=B)(a b i:Nat):∀j,mulC B a b i j<B
 |0=>by rw[Az];omega
 |j+1=>by
  have h:=(Bl d a b i j).2;have f:=sd d a b i j;have g:dd B a b i j (i+j)<B:=by rw[dd];split<;>exact cq d _ _
  have e:ae B a i*ae B b j<=(B-1)*(B-1):=gy (by have:=cq d a i;omega) (by have:=cq d b j;omega);rw[<-h,ck (by omega)];obtain⟨c,rfl⟩:∃c,B=c+1:=⟨B-1,by omega⟩
  simp only[gi]at e;rw[eb,ea];omega
end
section
variable{B:Nat}
theorem Hx{V W d:Nat}(a:0<V/d):W/V<=W/d/(V/d):=by
 have e:0<d:=by
  rcases en d with h|h
  ·subst h;simp at a
  ·exact h
 have f:0<V:=by
  rcases en V with h|h
  ·subst h;simp at a
  ·exact h
 rw[dq a,dq e];have b:W/V*V<=W:=em W V;have c:V/d*d<=V:=em V d
 calc W/V*(V/d)*d=W/V*(V/d*d):=dg _ _ _
  _<=W/V*V:=dz _ c
  _<=W:=b
theorem Ug{V W d q:Nat}(f:0<d)(e:0<V)(h:W/d<q*(V/d)):W/V<q:=by
 rw[ck e];have b:W<(W/d+1)*d:=by
  have:=gg (a:=W) f;rw[eb];omega
 have c:V/d*d<=V:=em V d
 calc W<(W/d+1)*d:=b
  _<=q*(V/d)*d:=c9 _ h
  _=q*(V/d*d):=dg _ _ _
  _<=q*V:=dz _ c
theorem SL{V W d q:Nat}(c:0<d)(i:q*d<=V)(b:0<V)(h:q*(V/d)<=W/d):q<=W/V+1:=by
 rcases en q with hq|hq
 ·subst hq;exact Nat.zero_le _
 have:q-1<=W/V:=by
  rw[dq b,Nat.sub_mul,fl];have a:V<=V/d*d+d:=Nat.le_of_lt (gg c);have e:W/d*d<=W:=em W d;have f:q*V<=q*(V/d)*d+q*d:=by
   calc q*V<=q*(V/d*d+d):=dz _ a
    _=q*(V/d)*d+q*d:=by rw[ea,dg]
  have g:q*(V/d)*d<=W/d*d:=c9 _ h;omega
 omega
theorem A9{q b c T a r:Nat}(d:q*b+r=T):q*(b*B+c)<=T*B+a↔q*c<=r*B+a:=by
 subst d;rw[ea,eb,dg];omega
theorem ry(n k:Nat):n/B^k=n/B^(k+1)*B+ae B n k:=by
 rw[vZ,ae,ce];exact(dl _ _).symm
theorem pN(n j i:Nat):ae B (n/B^j) i=ae B n (j+i):=by
 rw[ae,ae,cv,ew]
theorem BN{n m i:Nat}(h:i<m):ae B (n% B^m) i=ae B n i:=by
 obtain⟨d,rfl⟩:∃d,m=i+(d+1):=⟨m-i-1,by omega⟩
 rw[ae,ae,ew,Nat.mod_mul_right_div_self,cy,ce (B^d),e9]
theorem wz{n c m i:Nat}(h:i<m):ae B (n+c*B^m) i=ae B n i:=by
 rw[<-BN (n:=n+c*B^m) h,eo,BN h]
def OL(B W V q n:Nat):Nat:=W+B^(n+1)-q*V
theorem aAu{W V q n:Nat}(h:q*V<=W){i:Nat}(hi:i<n+1):ae B (OL B W V q n) i=ae B (W-q*V) i:=by
 rw[OL,show W+B^(n+1)-q*V=(W-q*V)+1*B^(n+1)by omega,wz hi]
theorem H5(b:2<=B){R d j:Nat}(k:Nat):ae B (R% B^j+d*B^j) k=if k<j then ae B R k else ae B d (k-j):=by
 have a:0<B^j:=c6 (by omega)
 split
 ·rename_i h;rw[wz h,BN h]
 ·rename_i h;obtain⟨e,rfl⟩:∃e,k=j+e:=⟨k-j,by omega⟩
  rw[<-pN,ee _ _ a,da (dp _ a),g0,Nat.add_sub_cancel_left]
theorem wR{R V j:Nat}:R% (V*B^j)=R% B^j+(R/B^j% V)*B^j/\R/(V*B^j)=R/B^j/V:=by
 constructor
 ·rw[ce V,ga,ce (B^j)]
 ·rw[ce V,cv]
end
section
variable{c v1 v0 T u1 q r:Nat}
def hq(c b a T u1:Nat):Nat:=(T*c+u1)/(b*c+a)
theorem Nu(a:T<v1*c+v0)(b:u1<c):hq c v1 v0 T u1<c:=by
 rw[hq,ck (by omega)]
 calc T*c+u1<T*c+c:=by omega
  _=(T+1)*c:=by rw[eb,fl]
  _<=(v1*c+v0)*c:=c9 _ a
  _=c*(v1*c+v0):=ce _ _
theorem K7(e:0<v1)(g:v0<c)(f:u1<c):hq c v1 v0 T u1<=T/v1:=by
 have hc:0<c:=by omega
 have a:(v1*c+v0)/c=v1:=by rw[ce,gx hc,da g,g4]
 have b:(T*c+u1)/c=T:=by rw[ce,gx hc,da f,g4]
 have h:=Hx (V:=v1*c+v0) (W:=T*c+u1) (d:=c) (by rw[a];exact e)
 rwa [a,b]at h
theorem BG(a:0<v1)(hc:0<c)(d:q*v1+r=T)(f:hq c v1 v0 T u1<=q)(e:q*v0<=c*r+u1):q=hq c v1 v0 T u1:=by
 have b:0<v1*c+v0:=by have:=fm a hc;omega
 have h:q*(v1*c+v0)<=T*c+u1:=(A9 d).2 (by rw[ce r];exact e);have:q<=hq c v1 v0 T u1:=by rw[hq,dq b];exact h
 omega
theorem Mo(b:0<v1)(hc:0<c)(f:q*v1+r=T)(i:hq c v1 v0 T u1<=q)(a:c<=q/\hq c v1 v0 T u1<c\/c*r+u1<q*v0):hq c v1 v0 T u1<=q-1:=by
 rcases a with⟨a,g⟩|a
 ·omega
 ·have d:0<v1*c+v0:=by have:=fm b hc;omega
  have h:¬q*(v1*c+v0)<=T*c+u1:=fun e=>by
   have:=(A9 f).1 e;rw[ce r]at this;omega
  have:hq c v1 v0 T u1<q:=by rw[hq,ck d];omega
  omega
theorem UL(a:T<v1*c+v0)(e:v0<c)(b:q*v1+r=T)(d:c<=r):q<c:=by
 rcases fd q c with h|h
 ·exact h
 ·have:c*v1<=q*v1:=c9 _ h;rw[ce c]at this;omega
theorem JW(b:0<v1)(d:T<v1*c+v0)(g:v0<c)(a:q*v1+r=T)(f:c<=r)(e:hq c v1 v0 T u1<=q):q=hq c v1 v0 T u1:=by
 have j:=UL d g a f;refine BG b (by omega) a e ?_;have h:q*v0<=c*v0:=c9 _ (by omega);have i:c*v0<=c*r:=dz _ (by omega);omega
theorem Nt(a:0<v1)(b:T<v1*c+v0)(d:c<=2*v1)(e:v0<c):T/v1<=c+1:=by
 have:T/v1<c+2:=by
  rw[ck a,eb,ce c];omega
 omega
theorem K6:T*c+u1-hq c v1 v0 T u1*(v1*c+v0)=(T*c+u1)% (v1*c+v0):=by
 rw[hq];generalize T*c+u1=A;generalize v1*c+v0=V;have:=dl A V;rw[ce (A/V)];omega
theorem Ye{Y U c:Nat}(hY:0<Y):U/Y=U/c/Y*c+((U/c% Y)*c+U% c)/Y/\U% Y=((U/c% Y)*c+U% c)% Y:=by
 have e:U=(U/c% Y*c+U% c)+(U/c/Y*c)*Y:=by
  have a:=dl U c;have b:=dl (U/c) Y;have d:(Y*(U/c/Y)+U/c% Y)*c=U/c*c:=by rw[b]
  rw[eb,ce Y,ge]at d;rw[ce c]at a;omega
 constructor
 ·conv=>lhs;rw[e]
  rw[ee _ _ hY,e7]
 ·conv=>lhs;rw[e]
  rw[eo]
end
section
variable{B W V n q r:Nat}
theorem aB7(b:2<=B)(c:2<=n)(a:V<B^n):V/B^(n-2)=ae B V (n-1)*B+ae B V (n-2):=by
 obtain⟨k,rfl⟩:∃k,n=k+2:=⟨n-2,by omega⟩
 have e1:k+2-2=k:=by omega
 have e2:k+2-1=k+1:=by omega
 rw[e1,e2,ry];have:V/B^(k+1)=ae B V (k+1):=by
  rw[ae,cx];rw[ck (c6 (by omega)),ce,<-cy];exact a
 rw[this]
theorem aBX(c:2<=B)(d:2<=n)(a:B^(n-1)<=V)(b:V<B^n):V/B^(n-1)=ae B V (n-1)/\0<ae B V (n-1):=by
 obtain⟨k,rfl⟩:∃k,n=k+1:=⟨n-1,by omega⟩
 have e2:k+1-1=k:=by omega
 rw[e2]at*;have:V/B^k=ae B V k:=by
  rw[ae,cx];rw[ck (c6 (by omega)),ce,<-cy];exact b
 exact⟨this,by rw[<-this];exact Nat.div_pos a (c6 (by omega))⟩
theorem A8(b:2<=B)(c:2<=n)(a:B^(n-1)<=V):0<V:=ec (c6 (by omega)) a
theorem La(c:2<=B)(f:2<=n)(d:B^(n-1)<=V)(e:V<B^n):W/V<=W/B^(n-1)/ae B V (n-1):=by
 obtain⟨a,b⟩:=aBX c f d e;rw[<-a];exact Hx (by rw[a];exact b)
theorem Mp(a:2<=B)(c:2<=n)(b:V<B^n)(d:q*ae B V (n-1)+r=W/B^(n-1)):
 q*(V/B^(n-2))<=W/B^(n-2)↔q*ae B V (n-2)<=r*B+ae B W (n-2):=by
 rw[aB7 a c b,ry,show n-2+1=n-1 by omega];exact A9 d
theorem C0(b:2<=B)(c:2<=n)(a:B^(n-1)<=V)(d:V<B^n)(g:q*ae B V (n-1)+r=W/B^(n-1))(hq:q<B)(h:q*ae B V (n-2)<=r*B+ae B W (n-2)):q<=W/V+1:=by
 have f:0<B^(n-2):=c6 (by omega);refine SL f ?_ (A8 b c a) ((Mp b c d g).2 h);have e:n-1=n-2+1:=by omega
 rw[e,cy,ce]at a;exact Nat.le_trans (c9 _ (by omega)) a
theorem Mq(a:2<=B)(b:2<=n)(c:B^(n-1)<=V)(d:V<B^n)(f:q*ae B V (n-1)+r=W/B^(n-1))(g:r*B+ae B W (n-2)<q*ae B V (n-2)):W/V<q:=by
 have e:0<B^(n-2):=c6 (by omega);refine Ug e (A8 a b c) ?_;rcases fd (W/B^(n-2)) (q*(V/B^(n-2)))with h|h
 ·exact h
 ·have:=(Mp a b d f).1 h;omega
theorem K9(a:2<=B)(b:B<=r)(hq:q<B):q*ae B V (n-2)<=r*B+ae B W (n-2):=by
 have e:ae B V (n-2)<B:=cq a _ _;have c:q*ae B V (n-2)<=B*B:=gy (by omega) (by omega);have d:B*B<=r*B:=c9 _ b;omega
theorem BH(e:2<=B)(f:1<=n)(c:V<B^n)(a:W<V*B):W/B^n<=ae B V (n-1)/\W/V<B:=by
 obtain⟨k,rfl⟩:∃k,n=k+1:=⟨n-1,by omega⟩
 have e2:k+1-1=k:=by omega
 rw[e2];have hk:0<B^k:=c6 (by omega);have b:V/B^k=ae B V k:=by
  rw[ae,cx];rw[ck hk,ce,<-cy];exact c
 refine⟨?_,?_⟩
 ·rw[<-b,cy,ce,<-cv];refine fb ?_;have:W/B<V:=by rw[ck (by omega)];exact a
  omega
 ·have d:0<V:=by
   rcases en V with h|h
   ·subst h;simp at a
   ·exact h
  rw[ck d,ce];exact a
def ig(B V q i:Nat):Nat:=q*(V% B^i)/B^i
theorem TP:ig B V q 0=0:=by simp[ig,e6]
theorem Vh(b:2<=B)(i:Nat):(q*ae B V i+ig B V q i)% B=ae B (q*V) i/\(q*ae B V i+ig B V q i)/B=ig B V q (i+1):=by
 have a:0<B^i:=c6 (by omega);have e:q*(V% B^(i+1))/B^i=q*ae B V i+ig B V q i:=by
  rw[mod_pow_succ,ea,gj,db _ _ a,ig,e7]
 rw[<-e];constructor
 ·have e2:q*V=q*(V% B^(i+1))+q*(V/B^(i+1))*B^(i+1):=by
   have:=dk V (B^(i+1))
   conv=>lhs;rw[<-this]
   rw[ea,ce (B^(i+1)),dg]
  conv=>rhs;rw[e2,wz (by omega)]
  rfl
 ·rw[ig,vZ]
theorem aAD(b:2<=B)(hq:q<B)(i:Nat):ig B V q i<B:=by
 have a:0<B^i:=c6 (by omega);rw[ig,ck a];exact ei hq (dp _ a)
theorem Vj(c:2<=B)(hq:q<B)(a:V<B^n):ig B V q n=ae B (q*V) n:=by
 have b:0<B^n:=c6 (by omega);rw[ig,cx a,ae];refine(cx ?_).symm;rw[ck b];exact ei hq a
theorem Su(hq:q<B)(a:V<B^n):q*V<B^(n+1):=by
 rw[cy,ce (B^n)];exact ei hq a
theorem uq{m i:Nat}(hi:i<m):ae B (W+B^m) i=ae B W i:=by
 have:=wz (B:=B) (n:=W) (c:=1) hi
 rwa [fl]at this
theorem R6(b:W<B^(n+1))(a:q*V<B^(n+1)):eM B (W+B^(n+1)) (q*V) (n+1)=if W<q*V then 1 else 0:=by
 rw[eM,gl,cx b,cx a]
theorem aAv(h:q*V<=W)(b:q<=W/V+1)(a:0<V)(c:W/V<=q):q=W/V/\W-q*V=W% V:=by
 have e:q=W/V:=by
  have:=(dq a).2 h;omega
 refine⟨e,?_⟩;have:=dl W V;rw[e,ce];omega
theorem Vn(h:W<q*V)(b:q<=W/V+1)(a:0<V)(c:W/V<=q):q=W/V+1/\∀M,q*V<=W+M->W+M-q*V+V=W% V+M:=by
 have e:q=W/V+1:=by
  have:¬q<=W/V:=fun e=>by
   have:=(dq a).1 e;omega
  omega
 refine⟨e,fun M d=>?_⟩;have:=dl W V;have e2:q*V=V*(W/V)+V:=by rw[e,eb,fl,ce]
 omega
end
section
variable{S T:Nat}
theorem Gp{x0 x1:Nat}(h:x0<S)(c:0<T):(x0+S*x1)% (S*T)=x0+S*(x1% T):=by
 have d:0<S:=by omega
 have e:x1=x1% T+T*(x1/T):=(dk x1 T).symm
 conv=>lhs;rw[e,ea,<-dg,<-Nat.add_assoc,eq]
 refine cx ?_;have a:x1% T+1<=T:=dp _ c;have b:S*(x1% T+1)<=S*T:=dz _ a;rw[ea,Nat.mul_one]at b;omega
theorem Un(w:Nat):ae (S*T) (w*S) 0=(ae (S*T) w 0*S)% (S*T):=by
 simp only[ae,g3,gc];rw[Nat.mod_mul_mod]
theorem Uo(b:0<S)(a:0<T)(w i:Nat):ae (S*T) (w*S) (i+1)=(ae (S*T) w (i+1)*S)% (S*T)+ae (S*T) w i/T:=by
 have d:0<S*T:=fm b a;have e0:w*S/(S*T)^(i+1)=w/(S*T)^i/T:=by
  rw[cy,ce S T,<-dg,Nat.mul_div_mul_right _ _ b,cv]
 have e1:w/(S*T)^(i+1)=w/(S*T)^i/(S*T):=by rw[cy,cv]
 simp only[ae];rw[e0,e1];generalize w/(S*T)^i=x;have e2:x/T=x% (S*T)/T+S*(x/(S*T)):=by
  conv=>lhs;rw[<-dk x (S*T)]
  rw[show S*T*(x/(S*T))=T*(S*(x/(S*T)))by rw[ce S T,dg],db _ _ a]
 have c:x% (S*T)/T<S:=by rw[ck a];exact dp _ d
 rw[e2,Gp c a];have e3:x/(S*T)% (S*T)*S% (S*T)=S*(x/(S*T)% T):=by
  rw[ce _ S,fI,ce S T,e9]
 rw[e3,e7]
theorem aAM(a:0<S)(e:0<T)(R i:Nat):ae (S*T) (R/S) i=ae (S*T) R i/S+(ae (S*T) R (i+1)*T)% (S*T):=by
 have d:0<S*T:=fm a e;have e0:R/S/(S*T)^i=R/(S*T)^i/S:=by rw[cv,ce,cv]
 have e1:R/(S*T)^(i+1)=R/(S*T)^i/(S*T):=by rw[cy,cv]
 simp only[ae];rw[e0,e1];generalize R/(S*T)^i=x;have e2:x/S=x% (S*T)/S+T*(x/(S*T)):=by
  conv=>lhs;rw[<-dk x (S*T)]
  rw[dg,db _ _ a]
 have c:x% (S*T)/S<T:=by rw[ck a,ce T];exact dp _ d
 have b:=Gp (S:=T) (T:=S) (x0:=x% (S*T)/S) (x1:=x/(S*T)) c a;rw[ce T S]at b;rw[e2,b];have e3:x/(S*T)% (S*T)*T% (S*T)=T*(x/(S*T)% S):=by
  rw[ce _ T,ce S T,fI,ce T S,e9]
 rw[e3]
end
theorem Ce{a b s:Nat}(c:b<2^s):a*2^s|||b=a*2^s+b:=by
 have:=Nat.shiftLeft_add_eq_or_of_lt c a;rw[Nat.shiftLeft_eq]at this;exact this.symm
def eW(l:List Nat):List PV:=l.map fun x:Nat=>.int .u64 x
theorem OT(w:List Nat):dV prog 1 (w.map (AV.p∘fun x:Nat=>PV.int .u64 x)):=by
 rw[tY];intro v a;obtain⟨x,_,rfl⟩:=bi.1 a;simp[ad,aL,bE]
theorem Ag:∀l:List Nat,dW (l++[0])=dW l
 |[]=>by simp[dW]
 |d::l=>by rw[b5,dW,Ag l,dW]
theorem tV:∀(l:List Nat)(d:Nat),d≠0->dW (l++[d])=l++[d]
 |[],d,h=>by simp[dW,h]
 |x::l,d,h=>by
  rw[b5,dW,tV l d h]
  split
  ·rename_i e;simp at e
  ·rfl
theorem sn(w:List Nat)(h:w.length<=1048576):az prog 291 [.seq (eW w)] (.seq (eW (dW w))):=by
 refine aO nf EY mix (by simp[f291]) ?_;simp only[eW];simp[f291];refine lp (α:=Nat) (fun i=>⟨[(3,.p (.int .i64 i)),(0,.p (.seq (w.map fun x:Nat=>.int .u64 x)))],[]⟩) (fun i=>i<=w.length/\dW w=dW (w.take i)) (fun i=>i) w.length (by simp) ?_;rintro i ⟨k1,k2⟩
 by_cases hi:0<i
 ·obtain⟨j,rfl⟩:∃j,i=j+1:=⟨i-1,by omega⟩
  have d:a2.wrap (j:Int)=j:=aN _ (by omega) (by omega);have a:j<w.length:=by omega
  have c:(0:Int)<(j:Int)+1:=by omega
  have k3:=k2;rw[be a]at k2
  by_cases b:w[j]=0
  ·rw[b,Ag]at k2;have e:((w[j]:Nat):Int)=0:=by omega
   simp[c,d,a,b];exact rd j ⟨by omega,k2⟩
  ·rw[tV _ _ b,<-be a]at k2;simp[c,d,a,b];refine⟨⟨by omega,by omega,OT w⟩,?_⟩;rw[k2,List.map_take];exact bB.refl _
 ·obtain rfl:i=0:=by omega
  simp[dW]at k2;simp[k2];exact OT w
def eN(n:Nat):PV:=.seq ((aq wB n).map fun x:Nat=>.int .u64 x)
theorem ba:2<=wB:=by decide
def fu(a b:Nat):Int:=if a<b then -1 else if b<a then 1 else 0
theorem G1{a b:Nat}(h:(aq wB a).length<(aq wB b).length):a<b:=by
 have d:=cj ba a;rcases fd a b with c|c
 ·exact c
 ·have:=dK ba (aq wB a).length b (ed c d);omega
theorem IF{a b i:Nat}(h:a/wB^(i+1)=b/wB^(i+1))(e:ae wB a i<ae wB b i):a<b:=by
 rw[cy,<-cv,<-cv]at h;have e1:=dl (a/wB^i) wB;have e2:=dl (b/wB^i) wB;rw[ae,ae]at e;rw[h]at e1;rcases fd a b with d|d
 ·exact d
 ·have:=fb (c:=wB^i) d;omega
theorem VU{a b i:Nat}(h:a/wB^(i+1)=b/wB^(i+1))(c:ae wB a i=ae wB b i):a/wB^i=b/wB^i:=by
 rw[cy,<-cv,<-cv]at h;have e1:=dl (a/wB^i) wB;have e2:=dl (b/wB^i) wB;rw[ae,ae]at c;rw[h]at e1;omega
theorem F8(a b:Nat)(w:(aq wB a).length<=1048576)(z:(aq wB b).length<=1048576):az prog 251 [eN a,eN b] (.int .i64 (fu a b)):=by
 refine aO nf LH mix (by simp[f251]) ?_
 by_cases hl:(aq wB a).length=(aq wB b).length
 case neg=>
  have m:¬((aq wB a).length:Int)=(aq wB b).length:=by omega
  by_cases t:(aq wB a).length<(aq wB b).length
  ·have g:((aq wB a).length:Int)<(aq wB b).length:=by omega
   have:=G1 t;have hc:fu a b= -1:=if_pos this;simp[f251,eN,m,g,hc]
  ·have g:¬((aq wB a).length:Int)<(aq wB b).length:=by omega
   have:=G1 (a:=b) (b:=a) (by omega);have hc:fu a b=1:=by rw[fu,if_neg (by omega),if_pos this]
   simp[f251,eN,m,g,hc]
 have q:∀i(h:i<(aq wB a).length),(aq wB a)[i]=ae wB a i:=fun i h=>eg ba h;have r:∀i(h:i<(aq wB b).length),(aq wB b)[i]=ae wB b i:=fun i h=>eg ba h;have o:=cj ba a;have l:=cj ba b;rw[<-hl]at l;have s:a/wB^(aq wB a).length=b/wB^(aq wB a).length:=by rw[da o,da l]
 have A:a=b\/a≠b:=by omega
 simp only[eN];generalize aq wB a=x at*;generalize aq wB b=y at*;have v:a2.wrap ((y.length:Int)-1)=y.length-1:=aN _ (by omega) (by omega);simp[f251,hl,v];refine lp (α:=Nat) (fun i=>⟨[(5,.p (.int .i64 ((i:Int)-1))),(1,.p (.seq (y.map fun x:Nat=>.int .u64 x))),(0,.p (.seq (x.map fun x:Nat=>.int .u64 x)))],[]⟩) (fun i=>i<=y.length/\a/wB^i=b/wB^i) (fun i=>i) y.length ⟨gb _,by rw[<-hl];exact s⟩ ?_;rintro i ⟨k1,k2⟩
 by_cases hi:0<i
 ·obtain⟨j,rfl⟩:∃j,i=j+1:=⟨i-1,by omega⟩
  have c:j<x.length:=by omega
  have d:j<y.length:=by omega
  have u:a2.wrap ((j:Int)-1)=j-1:=aN _ (by omega) (by omega);have e:=q j c;have f:=r j d
  by_cases hq:ae wB a j=ae wB b j
  ·simp[c,d,e,f,hq,u];exact rd j ⟨by omega,VU k2 hq⟩
  ·have n:¬(ae wB a j:Int)=ae wB b j:=by omega
   by_cases k:ae wB a j<ae wB b j
   ·have:=IF k2 k;have hc:fu a b= -1:=if_pos this;simp[c,d,e,f,n,k,hc]
   ·have:=IF k2.symm (show ae wB b j<ae wB a j by omega);have hc:fu a b=1:=by rw[fu,if_neg (by omega),if_pos this]
    simp[c,d,e,f,n,k,hc]
 ·obtain rfl:i=0:=by omega
  rw[g3,gc,gc]at k2;have hc:fu a b=0:=by rw[fu,if_neg (by omega),if_neg (by omega)]
  simp[hc]
@[simp] theorem Iu{α:Type}{f:α->PV}:∀{l:List α},eA (l.map (AV.p∘f))=some (l.map f)
 |[]=>rfl
 |x::l=>by simp only[bk,Function.comp,eA];rw[show(l.map (AV.p∘f))=l.map (fun x=>AV.p (f x))from rfl]at*;have:=@Iu α f l;rw[show(l.map (AV.p∘f))=l.map (fun x=>AV.p (f x))from rfl]at this;simp[this]
def uA(x:Nat):AV:=.p (.int .u64 x)
def gq(n i:Nat)(f:Nat->Nat):List AV:=(a7 n).map fun j=>uA (if j<i then f j else 0)
theorem BS(n i:Nat)(f:Nat->Nat):(gq n i f).length=n:=by simp[gq]
theorem JI(n:Nat)(f:Nat->Nat):cc n (AV.p (.int .u64 0))=gq n 0 f:=by
 apply a8 (by simp[gq]);intro i a b;simp[gq,uA]
theorem BR{n i:Nat}(f:Nat->Nat)(h:i<n):(gq n i f).set i (.p (.int .u64 (f i)))=gq n (i+1) f:=by
 apply a8 (by simp[gq]);intro j h1 c;simp only[gq,cb,b0]at c;rw[b3];simp only[gq,b4,bv,uA]
 by_cases a:i=j
 ·subst a;rw[if_pos rfl,if_pos (by omega)]
 ·rw[if_neg a]
  by_cases b:j<i
  ·rw[if_pos b,if_pos (by omega)]
  ·rw[if_neg b,if_neg (by omega)]
theorem JJ(n:Nat)(f:Nat->Nat):gq n n f=((a7 n).map f).map (AV.p∘fun x:Nat=>PV.int .u64 x):=by
 rw[gq,bl];apply bo;intro j a;rw[if_pos (List.mem_range.1 a)];rfl
@[simp] theorem aGB{N:Nat×Nat->Prop}{n i:Nat}{f:Nat->Nat}:aP N (gq n i f)=True:=by
 rw[b9,eq_iff_iff,iff_true];intro v a;simp only[gq,bi]at a;obtain⟨x,_,rfl⟩:=a;trivial
theorem ur{n i j:Nat}(f:Nat->Nat)(h:j<n):(gq n i f)[j]?=some (uA (if j<i then f j else 0)):=by
 rw[gq,b1,br h];rfl
theorem So{A C n:Nat}(a:A<wB^n)(b:C<wB^n):dc wB A C n=ae wB (A+C) n:=by
 have c:0<wB^n:=c6 (by decide);have:=lh ba A C n;rw[dc,cx a,cx b]at*;rw[ae,cx];exact ed this (by decide)
theorem BM{n i:Nat}(h:(aq wB n).length<=i):ae wB n i=0:=jf (ec (cj ba n) (ej (by decide) h))
theorem Ss(a b:Nat)(E:(aq wB a).length<=1000000)(F:(aq wB b).length<=1000000):az prog 250 [eN a,eN b] (eN (a+b)):=by
 refine aO nf LI mix (by simp[f250]) ?_;simp[f250,-bm];rw[bm];simp[-bm];refine join (fun s=>∃A C,A+C=a+b/\(aq wB C).length<=(aq wB A).length/\(aq wB A).length<=1000000/\aM s.env 0=.p (eN A)/\aM s.env 1=.p (eN C)/\s.heap=[]) ?_ ?_
 ·by_cases hl:(aq wB a).length<(aq wB b).length
  ·have j:((aq wB a).length:Int)<(aq wB b).length:=by omega
   simp[eN,j];exact⟨b,a,by omega,by omega,F,rfl,rfl⟩
  ·have j:¬((aq wB a).length:Int)<(aq wB b).length:=by omega
   simp[eN,j];exact⟨a,b,rfl,by omega,E,rfl,rfl⟩
 rintro⟨Q,S⟩ ⟨A,C,hs,K,T,f0,f1,B⟩;dsimp only at f0 f1 B;subst B;rw[<-hs];simp only[eN]at f0 f1⊢;have G:∀i(h:i<(aq wB A).length),(aq wB A)[i]=ae wB A i:=fun i h=>eg ba h;have H:∀i(h:i<(aq wB C).length),(aq wB C)[i]=ae wB C i:=fun i h=>eg ba h;have I:=cj ba A;have J:=ec (cj ba C) (ej (show 0<wB by decide) K);have t:=So I J;have L:=@BM C;have M:dW ((a7 ((aq wB A).length+1)).map (ae wB (A+C)))=aq wB (A+C):=jg ba (by
  have R:2*wB^(aq wB A).length<=wB^((aq wB A).length+1):=by rw[cy,ce];exact dz _ ba
  omega)
 have d:=sn ((a7 ((aq wB A).length+1)).map (ae wB (A+C))) (by simp;omega);rw[M]at d;generalize aq wB (A+C)=z at*;generalize aq wB A=x at*;generalize aq wB C=y at*;obtain⟨n,c⟩:∃n,x.length=n:=⟨_,rfl⟩
 obtain⟨m,o⟩:∃m,y.length=m:=⟨_,rfl⟩
 rw[c]at t d;have u:=JJ (n+1) (ae wB (A+C));have k:((a7 (n+1)).map (ae wB (A+C))).length=n+1:=by simp
 generalize (a7 (n+1)).map (ae wB (A+C))=l at d u k;have U:n<=1000000:=by omega
 have V:m<=n:=by omega
 have N:a2.wrap ((n:Int)+1)=n+1:=cJ (by omega);simp[f0,f1,c,N];refine⟨⟨by omega,by simp only[cT];omega⟩,?_⟩;rw[JI (n+1) (ae wB (A+C))];refine lp (α:=Nat) (fun i=>⟨[(22,.p (.int .i64 i)),(21,.p (.int .i64 n)),(6,.p (.int .u64 (dc wB A C i:Nat))),(5,.sl 0 0 1 0 (n+1)),(1,.p (.seq (y.map fun x:Nat=>.int .u64 x))),(0,.p (.seq (x.map fun x:Nat=>.int .u64 x)))],[.arr .exact 0 1 (gq (n+1) i (ae wB (A+C)))]⟩)
  (fun i=>i<=n) (fun i=>n-i) 0 (by simp) ?_ (he:=by simp[f0,f1,wG])
 intro i k1;have D:=cJ (i:=i) (by omega)
 by_cases hi:i<n
 ·have g:i<x.length:=by rw[c];exact hi
  have hx:=G i g;have e:=pV (ae wB A i) (ae wB C i) (dc wB A C i) (lh ba A C i);obtain⟨g1,g2⟩:=pA ba A C i;rw[g1,g2]at e;have aI:=BR (n:=n+1) (ae wB (A+C)) (show i<n+1 by omega);have aj:i<(gq (n+1) i (ae wB (A+C))).length:=by rw[BS];omega
  have w:(gq (n+1) i (ae wB (A+C))).length=n+1:=BS _ _ _;have W:gq (n+1) i (ae wB (A+C))≠[]:=by intro h;rw[h]at w;simp at w
  have f:i<n+1:=by omega
  by_cases q:i<m
  ·have v:i<y.length:=by rw[o];exact q
   have O:=H i v;have r:(i:Int)<m:=by omega
   simp[c,o,hi,q,r,hx,O,g,v];refine c3 e ?_;simp[f,aI,D,ur _ f,ad,aL,bE,uA];exact rd (i+1) (show i+1<=n by omega)
  ·have r:¬(i:Int)<m:=by omega
   have P:=L (i:=i) (by omega);rw[P]at e;simp[c,o,hi,q,r,hx,g];refine c3 e ?_;simp[f,aI,D,ur _ f,ad,aL,bE,uA];exact rd (i+1) (show i+1<=n by omega)
 have:i=n:=by omega
 subst this;simp[c,t,ur _ (gm i),BR _ (gm i),u,ad,aL,bE,uA];refine cp d (by simp[k];exact⟨rfl,rfl⟩) ?_ (h1:=by simp[eW,bb,k]);simp;exact bB.refl _
end Go.au
namespace Go.au
open Go.Proofs
theorem Uj{x y c d:Nat}(h:x+wB=d+(y+c))(a:d<wB):(x+wB-y-c)% wB=d:=by rw[show x+wB-y-c=d by omega];exact cx a
theorem UD{x y c d:Nat}(h:x=d+(y+c))(a:d<wB):(x+wB-y-c)% wB=d:=by rw[show x+wB-y-c=d+wB by omega,gl];exact cx a
theorem Mj{A C:Nat}(h:C<=A)(i:Nat):az prog 292 [.int .u64 (ae wB A i),.int .u64 (ae wB C i),.int .u64 (eM wB A C i)] (.aC [.int .u64 (ae wB (A-C) i),.int .u64 (eM wB A C (i+1))]):=by
 have c:eM wB A C i<=1:=by rw[eM];split<;>omega
 have a:=WJ (ae wB A i) (ae wB C i) (eM wB A C i) c;have b:=cq ba (A-C) i;have e:=cq ba A i;have f:=cq ba C i;have d:wB=18446744073709551616:=rfl;rcases I3 ba h i with⟨e1,e2,e3⟩|⟨e1,e2,e3⟩
 ·rw[if_pos e1,Uj e3 b]at a;rw[e2];exact a
 ·rw[if_neg (by omega),UD e3 b]at a;rw[e2];exact a
theorem Hd(A C:Nat)(k:C<=A)(D:(aq wB A).length<=1000000):az prog 252 [eN A,eN C] (eN (A-C)):=by
 refine aO nf E5 mix (by simp[f252]) ?_;have F:(aq wB C).length<=(aq wB A).length:=dK ba _ _ (ed k (cj ba A));have s:∀i(h:i<(aq wB A).length),(aq wB A)[i]=ae wB A i:=fun i h=>eg ba h;have t:∀i(h:i<(aq wB C).length),(aq wB C)[i]=ae wB C i:=fun i h=>eg ba h;have u:=@BM C;have v:dW ((a7 (aq wB A).length).map (ae wB (A-C)))=aq wB (A-C):=jg ba (ed (Nat.sub_le A C) (cj ba A));have b:=sn ((a7 (aq wB A).length).map (ae wB (A-C))) (by simp;omega);rw[v]at b;simp only[eN];generalize aq wB (A-C)=z at*;generalize aq wB A=x at*;generalize aq wB C=y at*;obtain⟨n,a⟩:∃n,x.length=n:=⟨_,rfl⟩
 obtain⟨m,f⟩:∃m,y.length=m:=⟨_,rfl⟩
 rw[a]at b;have o:=JJ n (ae wB (A-C));have e:((a7 n).map (ae wB (A-C))).length=n:=by simp
 generalize (a7 n).map (ae wB (A-C))=l at b o e;have E:n<=1000000:=by omega
 have H:m<=n:=by omega
 simp[f252,a];refine⟨by simp only[cT];omega,?_⟩;rw[JI n (ae wB (A-C))];refine lp (α:=Nat) (fun i=>⟨[(14,.p (.int .i64 i)),(13,.p (.int .i64 n)),(6,.p (.int .u64 (eM wB A C i:Nat))),(5,.sl 0 0 1 0 n),(1,.p (.seq (y.map fun x:Nat=>.int .u64 x))),(0,.p (.seq (x.map fun x:Nat=>.int .u64 x)))],[.arr .exact 0 1 (gq n i (ae wB (A-C)))]⟩)
  (fun i=>i<=n) (fun i=>n-i) 0 (by simp) ?_ (he:=by simp[Af])
 intro i k1;have r:=cJ (i:=i) (by omega)
 by_cases hi:i<n
 ·have d:i<x.length:=by rw[a];exact hi
  have hx:=s i d;have c:=Mj k i;have aI:=BR (n:=n) (ae wB (A-C)) hi;have G:(gq n i (ae wB (A-C))).length=n:=BS _ _ _
  by_cases g:i<m
  ·have q:i<y.length:=by rw[f];exact g
   have w:=t i q;have j:(i:Int)<m:=by omega
   simp[a,f,hi,g,j,hx,w,d,q];refine c3 c ?_;simp[hi,aI,r,ur _ hi,ad,aL,bE,uA];exact rd (i+1) (show i+1<=n by omega)
  ·have j:¬(i:Int)<m:=by omega
   have B:=u (i:=i) (by omega);rw[B]at c;simp[a,f,hi,g,j,hx,d];refine c3 c ?_;simp[hi,aI,r,ur _ hi,ad,aL,bE,uA];exact rd (i+1) (show i+1<=n by omega)
 have:i=n:=by omega
 subst this;simp[a,o,ad,aL,bE,uA];refine cp b (by simp[e];exact⟨rfl,rfl⟩) ?_ (h1:=by simp[eW,bb,e]);simp;exact bB.refl _
end Go.au
namespace Go.Proofs
open Go.Shelf
def Tryz.R0:Go.Shelf.Ren:=⟨fun|134=>331|129=>305|n=>n,fun|53=>308|3=>3|4=>4|46=>322|5=>5|9=>9|n=>n,fun|n=>n⟩
theorem Tryz.ay5:Go.Proofs.Lays.n134 prog R0:={
 mixed:=by kernel_rfl
 f129:=func305.trans (congrArg some (by kernel_rfl))
 f134:=func331.trans (congrArg some (by kernel_rfl))
 t3:=underlying3
 a3:=isAgg3
 z3:=sizeOf3
 v3:=zeroValue3
 t4:=underlying4
 a4:=isAgg4
 z4:=sizeOf4
 v4:=zeroValue4
 t5:=underlying5
 a5:=isAgg5
 z5:=sizeOf5
 v5:=zeroValue5
 t9:=underlying9
 a9:=isAgg9
 z9:=sizeOf9
 v9:=zeroValue9
 t46:=underlying322
 a46:=isAgg322
 z46:=sizeOf322
 v46:=zeroValue322
 t53:=underlying308
 a53:=isAgg308
 z53:=sizeOf308
 v53:=zeroValue308}
theorem Tryz.bits_LeadingZeros64(x:Int)(w:am)(a:0<=x)(b:x<=18446744073709551615):
 a1 prog 331 #[.int .u64 x] w fun e w'=>e=.returned (.int .i64 (64-(Lib.bitLen x.toNat:Int)))/\w'=w:=Any.bits_LeadingZeros64 ay5 x w a b
def Tryz.R3:Go.Shelf.Ren:=⟨fun|129=>305|n=>n,fun|53=>308|3=>3|4=>4|46=>322|5=>5|9=>9|n=>n,fun|n=>n⟩
theorem Tryz.ayV:Go.Proofs.Lays.n129 prog R3:={
 mixed:=by kernel_rfl
 f129:=func305.trans (congrArg some (by kernel_rfl))
 t3:=underlying3
 a3:=isAgg3
 z3:=sizeOf3
 v3:=zeroValue3
 t4:=underlying4
 a4:=isAgg4
 z4:=sizeOf4
 v4:=zeroValue4
 t5:=underlying5
 a5:=isAgg5
 z5:=sizeOf5
 v5:=zeroValue5
 t9:=underlying9
 a9:=isAgg9
 z9:=sizeOf9
 v9:=zeroValue9
 t46:=underlying322
 a46:=isAgg322
 z46:=sizeOf322
 v46:=zeroValue322
 t53:=underlying308
 a53:=isAgg308
 z53:=sizeOf308
 v53:=zeroValue308}
theorem Tryz.bits_Len64(x:Int)(w:am)(a:0<=x)(b:x<=18446744073709551615):
 a1 prog 305 #[.int .u64 x] w fun e w'=>e=.returned (.int .i64 (Lib.bitLen x.toNat))/\w'=w:=Any.bits_Len64 ayV x w a b
def Tryz.RY:Go.Shelf.Ren:=⟨fun|264=>255|n=>n,fun|53=>308|46=>322|n=>n,fun|n=>n⟩
theorem Tryz.azc:Go.Proofs.Lays.n264 prog RY:={
 mixed:=by kernel_rfl
 f264:=func255.trans (congrArg some (by kernel_rfl))
 t46:=underlying322
 a46:=isAgg322
 z46:=sizeOf322
 v46:=zeroValue322
 t53:=underlying308
 a53:=isAgg308
 z53:=sizeOf308
 v53:=zeroValue308}
open Go.RowKit Go.Lib in
theorem Tryz.bits_Mul64(x y:Nat)(hx:x<18446744073709551616)(hy:y<18446744073709551616)(w:am):
 a1 prog 255 #[.int .u64 x,.int .u64 y] w fun e w'=>e=.returned (.tuple #[.int .u64 ((x*y/18446744073709551616:Nat):Int),.int .u64 ((x*y% 18446744073709551616:Nat):Int)])/\w'=w:=Any.bits_Mul64 azc x y hx hy w
end Go.Proofs
namespace Go.au
open Go.Proofs
section
variable[Gl]{P:ap}
theorem iC{f:ao}{fn:Func}(h:P.funcs[f]?=some fn)(hs:(fn.body.isSome&&(fn.name != "runtime.NumGoroutine"))=true):Enters P f:=by
 intro args w;simp only[Bool.and_eq_true,bne_iff_ne]at hs;cases a:fn.body with
 |none=>rw[a]at hs;simp at hs
 |some c=>simp[callFunc,h,hs.2,a]
theorem ju{f:ao}{args:List PV}{v:PV}(l:Enters P f)
 (h:∀(w:am)(aa:Nat->Prop)(a:List av),(∀k,aa k->k<w.heap.size)->mg P w aa->bg P w aa args a->
  a1 P f a.toArray w fun e w'=>∃b,e=.returned b/\(w.heap.size<=w'.heap.size/\(∀k,k<w.heap.size->w'.heap[k]?=w.heap[k]?)/\w'.os=w.os/\w'.output=w.output)/\∀(w:am)(aa:Nat->Prop),aw P w aa v b):az P f args v:=by
 refine .inl ⟨l,fun w aa a d m j=>(h w aa a d m j).mono ?_⟩;rintro e w' ⟨b,rfl,⟨c,g,n⟩,i⟩;exact⟨b,aa,rfl,fun _ x=>x,fun _ x=>.inl x,fun k hk=>ec (d k hk) c,c,g,n,i _ _⟩
theorem l9{w:am}{aa:Nat->Prop}{a b:PV}{cs:List av}(h:bg P w aa [a,b] cs):∃x y,cs=[x,y]/\aw P w aa a x/\aw P w aa b y:=by
 simp only[bg]at h;obtain⟨x,xs,rfl,c,y,e,rfl,d,rfl⟩:=h;exact⟨x,y,rfl,c,d⟩
theorem xw{w:am}{aa:Nat->Prop}{a:PV}{cs:List av}(h:bg P w aa [a] cs):∃x,cs=[x]/\aw P w aa a x:=by
 simp only[bg]at h;obtain⟨x,xs,rfl,b,rfl⟩:=h;exact⟨x,rfl,b⟩
end
theorem xI(x y:Nat)(hx:x<18446744073709551616)(g:y<18446744073709551616):az prog 255 [.int .u64 x,.int .u64 y] (.aC [.int .u64 ((x*y/18446744073709551616:Nat):Int),.int .u64 ((x*y% 18446744073709551616:Nat):Int)]):=by
 refine ju (iC func255 (by kernel_rfl)) fun w aa h _ _ f=>?_;obtain⟨a,b,rfl,c,d⟩:=l9 f;simp only[aw]at c d;subst c d;refine(bits_Mul64 x y hx g w).mono ?_;rintro e w' ⟨rfl,rfl⟩;refine⟨_,rfl,⟨gb _,fun _ _=>rfl,rfl,rfl⟩,fun w aa=>?_⟩;simp only[aw,bg];exact⟨[_,_],⟨_,_,rfl,rfl,_,_,rfl,rfl,rfl⟩,rfl⟩
theorem Ml(x:Nat)(hx:x<18446744073709551616):az prog 331 [.int .u64 x] (.int .i64 (64-(Lib.bitLen x:Int))):=by
 refine ju (iC func331 (by kernel_rfl)) fun w aa d _ _ c=>?_;obtain⟨a,rfl,b⟩:=xw c;simp only[aw]at b;subst b;refine(bits_LeadingZeros64 x w (by omega) (by omega)).mono ?_;rintro e w' ⟨rfl,rfl⟩;refine⟨_,rfl,⟨gb _,fun _ _=>rfl,rfl,rfl⟩,fun w aa=>?_⟩;simp only[aw];rfl
end Go.au
namespace Go.au
open Go.Proofs
theorem eK(n:Int)(h:0<=n)(a:n<wB):a6.wrap n=n:=IntWalk.u64_in n ⟨h,by simp only[wB]at a;omega⟩
def b7(n:Nat)(f:Nat->Nat):List AV:=(a7 n).map fun j=>uA (f j)
theorem Kp(n:Nat)(f:Nat->Nat):(b7 n f).length=n:=by simp[b7]
theorem l6{n j:Nat}(f:Nat->Nat)(h:j<n):(b7 n f)[j]?=some (.p (.int .u64 (f j))):=by
 rw[b7,b1,br h];rfl
theorem Bm{n:Nat}{f:Nat->Nat}(h:∀j,f j=0):cc n (AV.p (.int .u64 0))=b7 n f:=by
 apply a8 (by simp[b7]);intro i a b;simp[b7,uA,h]
theorem oF{n i v:Nat}{f g:Nat->Nat}(d:g i=v)(c:∀k,k≠i->g k=f k):(b7 n f).set i (.p (.int .u64 v))=b7 n g:=by
 apply a8 (by simp[b7]);intro j e b;simp only[b7,cb,b0]at b;rw[b3];simp only[b7,b4,bv,uA]
 by_cases a:i=j
 ·subst a;rw[if_pos rfl,d]
 ·rw[if_neg a,c j (by omega)]
theorem Bn(n:Nat)(f:Nat->Nat):b7 n f=((a7 n).map f).map (AV.p∘fun x:Nat=>PV.int .u64 x):=by
 rw[b7,bl];rfl
theorem AA{n:Nat}{f g:Nat->Nat}(h:∀k,f k=g k):b7 n f=b7 n g:=by rw[show f=g from funext h]
@[simp] theorem aGA{N:Nat×Nat->Prop}{n:Nat}{f:Nat->Nat}:aP N (b7 n f)=True:=by
 rw[b9,eq_iff_iff,iff_true];intro v a;simp only[b7,bi]at a;obtain⟨x,_,rfl⟩:=a;trivial
@[simp] theorem aGH{σ:Nat->Nat}{n:Nat}{f:Nat->Nat}:cA σ (b7 n f)=b7 n f:=by
 have:∀l:List Nat,cA σ (l.map fun j=>uA (f j))=l.map fun j=>uA (f j):=by
  intro l
  induction l with
  |nil=>rfl
  |cons a r b=>simp only[bk,cA,b];rfl
 exact this _
theorem mul_two(P o k:Nat)(h:(P+o+k)/wB<wB)(a:o<wB)(hk:k<wB):
 ((P% wB+o+0)% wB+k+0)% wB=(P+o+k)% wB/\P/wB+(P% wB+o+0)/wB+((P% wB+o+0)% wB+k+0)/wB=(P+o+k)/wB/\P/wB+(P% wB+o+0)/wB<wB:=by
 simp only[wB]at*;omega
theorem Sq(a b:Nat)(D:(aq wB a).length+(aq wB b).length<=1000000):az prog 257 [eN a,eN b] (eN (a*b)):=by
 refine aO nf LR mix (by simp[f257]) ?_;have Q:∀i(h:i<(aq wB a).length),(aq wB a)[i]=ae wB a i:=fun i h=>eg ba h;have R:∀i(h:i<(aq wB b).length),(aq wB b)[i]=ae wB b i:=fun i h=>eg ba h;have t:=cj ba a;have q:=cj ba b;have V:dW ((a7 ((aq wB a).length+(aq wB b).length)).map (ae wB (a*b)))=aq wB (a*b):=jg ba (by
  rw[ew];exact ei t q)
 have e:=sn ((a7 ((aq wB a).length+(aq wB b).length)).map (ae wB (a*b))) (by simp;omega);rw[V]at e;simp only[eN];generalize aq wB (a*b)=z at*;generalize aq wB a=x at*;generalize aq wB b=y at*;obtain⟨n,d⟩:∃n,x.length=n:=⟨_,rfl⟩
 obtain⟨m,c⟩:∃m,y.length=m:=⟨_,rfl⟩
 rw[d]at t e D;rw[c]at q e D;have E:=Bn (n+m) (ae wB (a*b));have u:((a7 (n+m)).map (ae wB (a*b))).length=n+m:=by simp
 generalize (a7 (n+m)).map (ae wB (a*b))=l at e E u;have ah:a2.wrap ((n:Int)+m)=((n+m:Nat):Int):=by rw[aN _ (by omega) (by omega)];omega
 have U:((n:Int)+m).toNat=n+m:=by omega
 have T:0<=(n:Int)+m:=by omega
 have Y:a2.wrap ((n:Int)+m)=(n:Int)+m:=aN _ (by omega) (by omega);simp[f257,d,c,Y,U,T];refine⟨by simp only[cT];omega,?_⟩;rw[Bm (f:=dd wB a b 0 0) (by intro j;simp[ou,e6,ae])];refine lp (α:=Nat) (fun i=>⟨[(22,.p (.int .i64 i)),(21,.p (.int .i64 n)),(20,.p (.seq (x.map fun x:Nat=>.int .u64 x))),(5,.sl 0 0 1 0 (n+m)),(1,.p (.seq (y.map fun x:Nat=>.int .u64 x)))],[.arr .exact 0 1 (b7 (n+m) (dd wB a b i 0))]⟩)
  (fun i=>i<=n) (fun i=>n-i) 0 (by simp) ?_ (he:=by simp)
 intro i k1;have W:=cJ (i:=i) (by omega)
 by_cases hi:i<n
 ·have F:i<x.length:=by rw[d];exact hi
  have hx:=Q i F;simp[d,c,hi,F,hx];refine lp (α:=Nat) (fun j=>⟨[(29,.p (.int .i64 j)),(28,.p (.int .i64 m)),(27,.p (.seq (y.map fun x:Nat=>.int .u64 x))),(8,.p (.int .u64 (mulC wB a b i j:Nat))),(7,.p (.int .u64 (ae wB a i:Nat))),(6,.p (.int .i64 i)),(22,.p (.int .i64 i)),(21,.p (.int .i64 n)),(20,.p (.seq (x.map fun x:Nat=>.int .u64 x))),(5,.sl 0 0 1 0 (n+m)),(1,.p (.seq (y.map fun x:Nat=>.int .u64 x)))],[.arr .exact 0 1 (b7 (n+m) (dd wB a b i j))]⟩)
   (fun j=>j<=m) (fun j=>m-j) 0 (by simp) ?_ (he:=by simp[Az])
  intro j k2;have X:=cJ (i:=j) (by omega);have A:((i:Int)+j).toNat=i+j:=by omega
  have w:0<=(i:Int)+j:=by omega
  have I:a2.wrap ((i:Int)+j)=(i:Int)+j:=aN _ (by omega) (by omega)
  by_cases G:j<m
  ·have H:j<y.length:=by rw[c];exact G
   have aa:=R j H;have s:i+j<n+m:=by omega
   have o:=l6 (dd wB a b i j) s;have r:=Bl ba a b i j;have N:=sd ba a b i j;have O:=sd ba a b i (j+1);have P:dd wB a b i j (i+j)<wB:=by rw[dd];split<;>exact cq ba _ _
   obtain⟨e1,e2,e3⟩:=mul_two (ae wB a i*ae wB b j) (dd wB a b i j (i+j)) (mulC wB a b i j) (by rw[r.2];exact O) P N;rw[r.1]at e1;rw[r.2]at e2;have J:=xI (ae wB a i) (ae wB b j) (cq ba _ _) (cq ba _ _);rw[show(18446744073709551616:Nat)=wB from rfl]at J;have ab:=pV (ae wB a i*ae wB b j% wB) (dd wB a b i j (i+j)) 0 (by omega);have K:=pV ((ae wB a i*ae wB b j% wB+dd wB a b i j (i+j)+0)% wB) (mulC wB a b i j) 0 (by omega);rw[e1]at K;have hs:=oF (n:=n+m) (i:=i+j) (f:=dd wB a b i j) (g:=dd wB a b i (j+1)) (JG a b i j) (fun k hk=>H3 ba hk);generalize ae wB a i*ae wB b j% wB=L at*;generalize ae wB a i*ae wB b j/wB=B at*;generalize (L+dd wB a b i j (i+j)+0)% wB=ac at*;generalize (L+dd wB a b i j (i+j)+0)/wB=C at*;generalize (ac+mulC wB a b i j+0)/wB=af at*;have M:a6.wrap ((B:Int)+C)=((B+C:Nat):Int):=by rw[eK _ (by omega) (by omega)];omega
   have ag:a6.wrap ((B:Int)+C+af)=(mulC wB a b i (j+1):Nat):=by rw[eK _ (by omega) (by omega)];omega
   simp[d,c,G,H,aa];refine c2 J ?_;simp[I,A,w,s,o,ad,aL,bE];refine c3 ab ?_;simp[M];refine c3 K ?_;simp[I,A,w,s,o,hs,M,ag,X,ad,aL,bE];exact rd (j+1) (show j+1<=m by omega)
  have:j=m:=by omega
  subst this;have Z:a2.wrap ((i:Int)+j)=(i:Int)+j:=aN _ (by omega) (by omega);have aj:i+j<n+j:=by omega
  have o:=l6 (dd wB a b i j) aj;have hs:=oF (n:=n+j) (i:=i+j) (f:=dd wB a b i j) (g:=dd wB a b (i+1) 0) (v:=mulC wB a b i j) (by rw[ou,GF ba q]) (fun k hk=>by rw[ou,JH ba q hk]);simp[c,Z,A,w,hi,aj,o,hs,W,ad,aL,bE];exact rd (i+1) (show i+1<=n by omega)
 have:i=n:=by omega
 subst this;have S:b7 (i+m) (dd wB a b i 0)=b7 (i+m) (ae wB (a*b)):=AA fun k=>by rw[ou,cx t]
 simp[d,S,E];refine cp e (by simp[u];exact⟨rfl,rfl⟩) ?_ (h1:=by simp[eW,bb,u]);simp;exact bB.refl _
end Go.au
