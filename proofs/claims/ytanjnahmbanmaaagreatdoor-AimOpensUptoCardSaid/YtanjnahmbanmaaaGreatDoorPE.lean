import Derived.Test.YtanjnahmbanmaaaGreatDoorPD
import Derived.Deep.DeepHandedRow
import Derived.Deep.DeepWitnessRowRef
import Derived.Seven
import Derived.SevenTiedAt
import Derived.Test.YtanjnahmbanmaaaGreatDoorPA
import Derived.KernelRfl
import Derived.Shelf.Spec.BitsCarry
import Derived.Shelf.Strings.Builder1
import Derived.Shelf.Strings.Builder2
import Derived.Shelf.Strings.Trim
import Derived.Shelf.Small.Utf8
import Derived.Shelf.Small.Bits
import Derived.Shelf.Small.Strs
import Derived.Shelf.Small.Wraps
import Derived.Shelf.Strings.BuilderF
import Derived.Shelf.Strings.Builder2Cap
import Derived.Shelf.Strconv.Atoi
import Derived.Shelf.Strconv.Itoa0
import Derived.Shelf.Strconv.Itoa1
import Derived.Shelf.LaysM
import Derived.Shelf.Strconv.Itoa2
import Derived.Shelf.Strconv.Itoa3
import Derived.Shelf.Strconv.AtoiErrFast
import Derived.Shelf.Strconv.ParseIntEmpty
import Derived.Shelf.Strconv.AtoiFail
import Derived.Shelf.Strconv.Clone
import Derived.Shelf.Strconv.SyntaxError
import Derived.Shelf.LaysC
import Derived.Shelf.Strconv.ToError
import Derived.Shelf.Strconv.Lower
import Derived.Shelf.Strconv.ParseUint10
import Derived.Shelf.Strconv.ParseUint10Empty
import Derived.Shelf.Strconv.ParseUint10Any
import Derived.Shelf.Strconv.ParseInt10
import Derived.Shelf.Strconv.AtoiLong
import Derived.Shelf.Strconv.AtoiInnerAll
import Derived.Shelf.Strconv.RangeError
import Derived.Shelf.Strconv.ToErrorRange
import Derived.Shelf.Strconv.AtoiAll
import Derived.Shelf.Strconv.ParseUintEmpty
import Derived.Shelf.Strings.Search1
import Derived.Shelf.Strings.Search2
import Derived.Shelf.Strings.Cut
import Derived.Shelf.Strings.Shaped
import Derived.Shelf.Strings.Prefix
import Derived.Shelf.Unicode.Decode
import Derived.Shelf.Strings.Runes
import Derived.Shelf.Strings.AsciiSet
import Derived.Shelf.Bits.Mul64
import Derived.Shelf.Strings.Repeat
import Derived.Shelf.Unicode.DecodeSlow
import Derived.Shelf.Unicode.DecodeAny
import Derived.Shelf.Unicode.DecodeLast
import Derived.Shelf.Slices.Turned
import Derived.Test.YtanjnahmbanmaaaGreatDoorProg
/- Parts of a proof. -/
set_option linter.unusedSimpArgs false
set_option linter.unusedVariables false
set_option linter.unusedSectionVars false
open Go.Proofs.Tryz
open Go renaming World->am, FuncId->ao, Program->ap, Value->av, OpenSpec->ax, run_callFunc_extern->ay, Checked->aT, ReturnsInHanded->a0, Calls->a1
open Go.IntKind renaming i64->a2, u64->a6
open List renaming range->a7, ext_getElem->a8, take_of_length_le->bb, take_succ_eq_append_getElem->be, mem_map->bi, map_cons->bl, map_map->bo, map_congr_left->bp, getElem?_range->bv, getElem_range->bI, length_range->bV, getElem?_map->b0, length_cons->b1, getElem_set->b2, getElem_map->b3, cons_append->b4, length_map->b5, replicate->cb
open Nat renaming mul_comm->cc, div_lt_iff_lt_mul->ce, div_div_eq_div_mul->ck, mod_eq_of_lt->cv, pow_succ->cx, pow_pos->cy, mul_le_mul_right->c6, div_eq_of_lt->c9, add_mul_div_left->da, mul_assoc->db, mod_add_div->dg, div_add_mod->dk, mod_lt->dl, le_div_iff_mul_le->dp, mul_le_mul_left->dq, mul_add->dz, add_mul->ea, lt_of_lt_of_le->eb, lt_of_le_of_lt->ec, add_mul_div_right->ed, mul_lt_mul''->ee, pow_le_pow_right->ei, div_mul_le_self->ej, eq_zero_or_pos->em, add_mul_mod_self_right->en, add_mul_mod_self_left->eo, pow_add->eq, mod_one->ew, add_comm->e6, div_lt_self->e7, mod_mul_right_mod->e8, div_le_div_right->e9, lt_or_ge->fb, one_mul->fd, mul_pos->fl, add_mod->fm, mul_mod_mul_left->fv, mod_mul->fw, le_refl->gb, div_one->gc, mul_right_comm->ge, lt_div_mul_add->gg, add_sub_cancel->gi, mul_left_comm->gj, add_mod_right->gm, lt_succ_self->gt, strongRecOn->gx, mul_add_div->gy, mul_le_mul->g0, zero_add->g4, pow_zero->g5, add_zero->g6
namespace Go.ak
open Go.Proofs
section
variable{H:Type}{enc:TypeId×av->H}
theorem aIj{p:Pinned}{C:aT}{P:ap}(b:p.checked=C)(d:C.prog=P){s:ax}{c:OpenClaim}(f:ao)(fn:Func)
 (l:c.program=p.name)(hs:c.sum=p.sum)(q:c.spec=s.name)
 (r:c.start=.entering)(o:c.outside=[])(al:c.inits=[])(u:c.under=none)(i:c.initsInPlace=[]/\c.initsUnfollowed=false/\c.initsRecurse=false/\c.initsNamed=[]/\c.initsPassed=[])(n:c.noBlocks=false)(k:c.leaving=false)(g:c.followed=none)(m:c.narrowed=s.cond.isSome)(t:c.still=false)
 (e:P.funcNamed c.func=some f)(hf:P.funcs[f]?=some fn)
 (closed:joinedFacts P f fn s.bare c=true)
 (j:fn.isInstance P c.origin c.targs)(v:fn.isWrapper P c.wrapper c.mainSum)
 (h:∀os:Os,os.Started->∀(H:Type)(a:TypeId×av->H)(F:Stop.Interp),
  a0 c.assume C os f .any (s.preRow a P fn c.domain c.apart c.laid) ((s.at F).post a P fn c.apart c.fresh c.handsOn c.again)):c.holds p s:=by
 subst b;subst d;exact OpenClaim.holds_of_cond f fn l hs q r o al u i n k g m t e hf closed j v (fun os st H a _ F=>by rw[OpenClaim.pre_eq_preRow];exact h os st H a F)
theorem VM{a:Assume}{C:aT}{P:ap}(q:C.prog=P){os:Os}{f:ao}{fn:Func}{s:ax}{F:Stop.Interp}{h:List PathCond}{apart fresh handsOn again:Bool}{laid:List (String×DataW Unit)}
 (x:ownKnob P.godebug=none)(y:os.Started)(u:P.inits.idxOf? f=none)(r:P.funcs[f]?=some fn)
 (z:∃(w:am)(tape:Tape)(i:Input),w.os=os/\(w.forCall tape i).Shaped P/\i.vars=[]/\Input.okWide P (w.forCall tape i) .any w.heap.size f i/\
  s.preRow enc P fn h apart laid (w.forCall tape i).memory i.args/\a.holds P (lone (Frame.enter P f i.args .normal) [] (w.forCall tape i)))
 (BX:∀(W:am)(d:Nat)(args:Array av)(b c:List (DataW H))(g:List MemPlace),
  (∀(j:Nat) t v,fn.params[j]?=some t->args[j]?=some v->Value.okWide P W .any d t v)->
  DataW.Whole enc P fn.params.toList s.vars apart W args.toList b c g->
  (∀k,s.cond=some k->k H (b++c)=true)->
  laidMetH P laid W->
  a1 P f args W fun e l=>∃v,e=.returned v/\(s.at F).post enc P fn apart fresh handsOn again W args v l):
 a0 a C os f .any (s.preRow enc P fn h apart laid) ((s.at F).post enc P fn apart fresh handsOn again):=by
 subst q;exact returnsInHanded_of_row x y u r z (fun W d args b c g m n _ o _ p _ _=>BX W d args b c g m n o p)
theorem Ux{C:aT}{P:ap}(b:C.prog=P){os:Os}{f:ao}{fn:Func}{s:ax}{a:List PathCond}{apart:Bool}{laid:List (String×DataW Unit)}(w0:am)(args:Array av)(d:w0.os=os)
 (h:(w0.forCall (fun _ _=>0) ⟨#[],args,[]⟩).variablesRefB P=true)
 (e:((w0.forCall (fun _ _=>0) ⟨#[],args,[]⟩).heap.toList.drop P.globals.size).take ((begin P (fun _ _=>0) default).world.heap.size-P.globals.size)=
  (begin P (fun _ _=>0) default).world.heap.toList.drop P.globals.size)
 (c:Input.okWideB P (w0.forCall (fun _ _=>0) ⟨#[],args,[]⟩) f ⟨#[],args,[]⟩=true)
 (g:s.preRow enc P fn a apart laid (w0.forCall (fun _ _=>0) ⟨#[],args,[]⟩).memory args):
 ∃(w:am)(tape:Tape)(i:Input),w.os=os/\(w.forCall tape i).Shaped P/\i.vars=[]/\Input.okWide P (w.forCall tape i) .any w.heap.size f i/\
  s.preRow enc P fn a apart laid (w.forCall tape i).memory i.args/\({modest:=false}:Assume).holds P (lone (Frame.enter P f i.args .normal) [] (w.forCall tape i)):=by
 subst b;exact witness_row_atRef (C:=C) false w0 args d h e c g
theorem YR{p:Pinned}{C:aT}{P:ap}(m:p.checked=C)(n:C.prog=P)(d:Looks){s:ax}{c:OpenClaim}(kinds:List LaidKind)(e:Bool)(a:Bool×String)(b:Bool){g:ao}{i:Func}
 (hc:c.holds p s)(A:c.wfByText s=true)(z:c.laidByTextAt d p kinds e)
 (aN:c.start=.entering)(w:c.noBlocks=false/\c.again=false)(u:P.mainIs=some (a.1,a.2.toList))(v:(!a.1&&a.2.isEmpty&&!b)=false)
 (o:P.funcNamed c.func=some g)(hf:P.funcs[g]?=some i)(r:b=P.looks [])(x:∀t∈i.params.toList,P.wantsStandIn t=false)
 (q:false=c.goesBy P):
 Claim7.holds p (.plain s) {stood:={row:=c,standIns:=[],harness:=a,looks:=b},kinds:=[],alts:=[],laidByText:=true,laidKinds:=kinds,laidTests:=e,laidLooks:=d}:=by
 subst m;subst n;refine Claim7.holds_tied_plain_at d [] kinds e a b hc (fun _ h=>by cases h) A (fun _ h=>by cases h) z aN w u v (fun f fn k l=>?_) q;rw[o]at k;cases k;rw[hf]at l;cases l;exact⟨r,fun j t y=>x t (by simpa using Array.mem_of_getElem? y)⟩
end
theorem GV:Go.Proofs.YtanjnahmbanmaaaGreatDoor.Tryz.pinned.checked=checked:=rfl
theorem wY:checked.prog=prog:=rfl
theorem aHG:true=prog.looks []:=by kernel_rfl
theorem aHN:ownKnob prog.godebug=none:=by kernel_rfl
theorem mix:prog.follows .mixedOrders=true:=by kernel_rfl
abbrev nf:ao->Bool:=fun _=>false
theorem azt:aq prog 2 f2:=⟨func2,by kernel_rfl⟩
theorem az2:aq prog 3 f3:=⟨func3,by kernel_rfl⟩
theorem aCp:aq prog 4 f4:=⟨func4,by kernel_rfl⟩
theorem aCE:aq prog 5 f5:=⟨func5,by kernel_rfl⟩
theorem vU:aq prog 6 f6:=⟨func6,by kernel_rfl⟩
theorem aDv:aq prog 7 f7:=⟨func7,by kernel_rfl⟩
theorem aDM:aq prog 8 f8:=⟨func8,by kernel_rfl⟩
theorem aEf:aq prog 9 f9:=⟨func9,by kernel_rfl⟩
theorem aiE:aq prog 10 f10:=⟨func10,by kernel_rfl⟩
theorem akR:aq prog 11 f11:=⟨func11,by kernel_rfl⟩
theorem aob:aq prog 12 f12:=⟨func12,by kernel_rfl⟩
theorem apV:aq prog 13 f13:=⟨func13,by kernel_rfl⟩
theorem Pa:aq prog 14 f14:=⟨func14,by kernel_rfl⟩
theorem avK:aq prog 15 f15:=⟨func15,by kernel_rfl⟩
theorem azj:aq prog 16 f16:=⟨func16,by kernel_rfl⟩
theorem Pb:aq prog 17 f17:=⟨func17,by kernel_rfl⟩
theorem azl:aq prog 18 f18:=⟨func18,by kernel_rfl⟩
theorem azr:aq prog 19 f19:=⟨func19,by kernel_rfl⟩
theorem Pc:aq prog 20 f20:=⟨func20,by kernel_rfl⟩
theorem azu:aq prog 21 f21:=⟨func21,by kernel_rfl⟩
theorem Pd:aq prog 22 f22:=⟨func22,by kernel_rfl⟩
theorem azK:aq prog 23 f23:=⟨func23,by kernel_rfl⟩
theorem Pe:aq prog 24 f24:=⟨func24,by kernel_rfl⟩
theorem Pf:aq prog 25 f25:=⟨func25,by kernel_rfl⟩
theorem Pg:aq prog 26 f26:=⟨func26,by kernel_rfl⟩
theorem azP:aq prog 27 f27:=⟨func27,by kernel_rfl⟩
theorem Ph:aq prog 28 f28:=⟨func28,by kernel_rfl⟩
theorem azZ:aq prog 29 f29:=⟨func29,by kernel_rfl⟩
theorem az3:aq prog 30 f30:=⟨func30,by kernel_rfl⟩
theorem az7:aq prog 31 f31:=⟨func31,by kernel_rfl⟩
theorem aAb:aq prog 32 f32:=⟨func32,by kernel_rfl⟩
theorem Pj:aq prog 33 f33:=⟨func33,by kernel_rfl⟩
theorem Pk:aq prog 34 f34:=⟨func34,by kernel_rfl⟩
theorem wT:aq prog 35 f35:=⟨func35,by kernel_rfl⟩
theorem Pm:aq prog 36 f36:=⟨func36,by kernel_rfl⟩
theorem DH:aq prog 37 f37:=⟨func37,by kernel_rfl⟩
theorem DI:aq prog 38 f38:=⟨func38,by kernel_rfl⟩
theorem Pn:aq prog 39 f39:=⟨func39,by kernel_rfl⟩
theorem Po:aq prog 40 f40:=⟨func40,by kernel_rfl⟩
theorem Pp:aq prog 41 f41:=⟨func41,by kernel_rfl⟩
theorem aCq:aq prog 42 f42:=⟨func42,by kernel_rfl⟩
theorem aCs:aq prog 43 f43:=⟨func43,by kernel_rfl⟩
theorem aCv:aq prog 44 f44:=⟨func44,by kernel_rfl⟩
theorem aCw:aq prog 45 f45:=⟨func45,by kernel_rfl⟩
theorem aCD:aq prog 46 f46:=⟨func46,by kernel_rfl⟩
theorem Pq:aq prog 47 f47:=⟨func47,by kernel_rfl⟩
theorem Pr:aq prog 48 f48:=⟨func48,by kernel_rfl⟩
theorem Ps:aq prog 49 f49:=⟨func49,by kernel_rfl⟩
theorem Pt:aq prog 50 f50:=⟨func50,by kernel_rfl⟩
theorem Pu:aq prog 51 f51:=⟨func51,by kernel_rfl⟩
theorem aCO:aq prog 52 f52:=⟨func52,by kernel_rfl⟩
theorem Pv:aq prog 53 f53:=⟨func53,by kernel_rfl⟩
theorem aCP:aq prog 54 f54:=⟨func54,by kernel_rfl⟩
theorem aCR:aq prog 55 f55:=⟨func55,by kernel_rfl⟩
theorem Pw:aq prog 56 f56:=⟨func56,by kernel_rfl⟩
theorem aCV:aq prog 57 f57:=⟨func57,by kernel_rfl⟩
theorem aCW:aq prog 58 f58:=⟨func58,by kernel_rfl⟩
theorem aCX:aq prog 59 f59:=⟨func59,by kernel_rfl⟩
theorem aC0:aq prog 60 f60:=⟨func60,by kernel_rfl⟩
theorem aC1:aq prog 61 f61:=⟨func61,by kernel_rfl⟩
theorem aC2:aq prog 62 f62:=⟨func62,by kernel_rfl⟩
theorem aC3:aq prog 63 f63:=⟨func63,by kernel_rfl⟩
theorem aDb:aq prog 64 f64:=⟨func64,by kernel_rfl⟩
theorem aDc:aq prog 65 f65:=⟨func65,by kernel_rfl⟩
theorem aDl:aq prog 66 f66:=⟨func66,by kernel_rfl⟩
theorem aDn:aq prog 67 f67:=⟨func67,by kernel_rfl⟩
theorem aDo:aq prog 68 f68:=⟨func68,by kernel_rfl⟩
theorem aDp:aq prog 69 f69:=⟨func69,by kernel_rfl⟩
theorem aDy:aq prog 70 f70:=⟨func70,by kernel_rfl⟩
theorem Px:aq prog 71 f71:=⟨func71,by kernel_rfl⟩
theorem aDE:aq prog 72 f72:=⟨func72,by kernel_rfl⟩
theorem Py:aq prog 73 f73:=⟨func73,by kernel_rfl⟩
theorem aDH:aq prog 74 f74:=⟨func74,by kernel_rfl⟩
theorem Pz:aq prog 75 f75:=⟨func75,by kernel_rfl⟩
theorem aDK:aq prog 76 f76:=⟨func76,by kernel_rfl⟩
theorem PA:aq prog 77 f77:=⟨func77,by kernel_rfl⟩
theorem PB:aq prog 78 f78:=⟨func78,by kernel_rfl⟩
theorem PC:aq prog 79 f79:=⟨func79,by kernel_rfl⟩
theorem PD:aq prog 80 f80:=⟨func80,by kernel_rfl⟩
theorem PE:aq prog 81 f81:=⟨func81,by kernel_rfl⟩
theorem aDW:aq prog 82 f82:=⟨func82,by kernel_rfl⟩
theorem PF:aq prog 83 f83:=⟨func83,by kernel_rfl⟩
theorem aDX:aq prog 84 f84:=⟨func84,by kernel_rfl⟩
theorem aDY:aq prog 85 f85:=⟨func85,by kernel_rfl⟩
theorem aEe:aq prog 86 f86:=⟨func86,by kernel_rfl⟩
theorem PG:aq prog 87 f87:=⟨func87,by kernel_rfl⟩
theorem PH:aq prog 88 f88:=⟨func88,by kernel_rfl⟩
theorem PI:aq prog 89 f89:=⟨func89,by kernel_rfl⟩
theorem PJ:aq prog 90 f90:=⟨func90,by kernel_rfl⟩
theorem PK:aq prog 91 f91:=⟨func91,by kernel_rfl⟩
theorem PL:aq prog 92 f92:=⟨func92,by kernel_rfl⟩
theorem aEg:aq prog 93 f93:=⟨func93,by kernel_rfl⟩
theorem PM:aq prog 94 f94:=⟨func94,by kernel_rfl⟩
theorem PN:aq prog 95 f95:=⟨func95,by kernel_rfl⟩
theorem PO:aq prog 96 f96:=⟨func96,by kernel_rfl⟩
theorem aEh:aq prog 97 f97:=⟨func97,by kernel_rfl⟩
theorem PQ:aq prog 98 f98:=⟨func98,by kernel_rfl⟩
theorem PR:aq prog 99 f99:=⟨func99,by kernel_rfl⟩
theorem aiN:aq prog 100 f100:=⟨func100,by kernel_rfl⟩
theorem aja:aq prog 101 f101:=⟨func101,by kernel_rfl⟩
theorem ajN:aq prog 102 f102:=⟨func102,by kernel_rfl⟩
theorem Fb:aq prog 103 f103:=⟨func103,by kernel_rfl⟩
theorem NG:aq prog 104 f104:=⟨func104,by kernel_rfl⟩
theorem ajY:aq prog 105 f105:=⟨func105,by kernel_rfl⟩
theorem ND:aq prog 106 f106:=⟨func106,by kernel_rfl⟩
theorem Fa:aq prog 107 f107:=⟨func107,by kernel_rfl⟩
theorem E9:aq prog 108 f108:=⟨func108,by kernel_rfl⟩
theorem FD:aq prog 109 f109:=⟨func109,by kernel_rfl⟩
theorem FC:aq prog 110 f110:=⟨func110,by kernel_rfl⟩
theorem FB:aq prog 111 f111:=⟨func111,by kernel_rfl⟩
theorem FA:aq prog 112 f112:=⟨func112,by kernel_rfl⟩
theorem amY:aq prog 113 f113:=⟨func113,by kernel_rfl⟩
theorem Fz:aq prog 114 f114:=⟨func114,by kernel_rfl⟩
theorem NC:aq prog 115 f115:=⟨func115,by kernel_rfl⟩
theorem NA:aq prog 116 f116:=⟨func116,by kernel_rfl⟩
theorem Nz:aq prog 117 f117:=⟨func117,by kernel_rfl⟩
theorem anS:aq prog 118 f118:=⟨func118,by kernel_rfl⟩
theorem Ny:aq prog 119 f119:=⟨func119,by kernel_rfl⟩
theorem aof:aq prog 120 f120:=⟨func120,by kernel_rfl⟩
theorem aog:aq prog 121 f121:=⟨func121,by kernel_rfl⟩
theorem F0:aq prog 122 f122:=⟨func122,by kernel_rfl⟩
theorem FZ:aq prog 123 f123:=⟨func123,by kernel_rfl⟩
theorem FY:aq prog 124 f124:=⟨func124,by kernel_rfl⟩
theorem FX:aq prog 125 f125:=⟨func125,by kernel_rfl⟩
theorem AL:aq prog 126 f126:=⟨func126,by kernel_rfl⟩
theorem FW:aq prog 127 f127:=⟨func127,by kernel_rfl⟩
theorem Gu:aq prog 128 f128:=⟨func128,by kernel_rfl⟩
theorem Gt:aq prog 129 f129:=⟨func129,by kernel_rfl⟩
theorem Gs:aq prog 130 f130:=⟨func130,by kernel_rfl⟩
theorem Gr:aq prog 131 f131:=⟨func131,by kernel_rfl⟩
theorem Gq:aq prog 132 f132:=⟨func132,by kernel_rfl⟩
theorem Gp:aq prog 133 f133:=⟨func133,by kernel_rfl⟩
theorem Gn:aq prog 134 f134:=⟨func134,by kernel_rfl⟩
theorem Gm:aq prog 135 f135:=⟨func135,by kernel_rfl⟩
theorem Gk:aq prog 136 f136:=⟨func136,by kernel_rfl⟩
theorem Gj:aq prog 137 f137:=⟨func137,by kernel_rfl⟩
theorem ara:aq prog 138 f138:=⟨func138,by kernel_rfl⟩
theorem asS:aq prog 139 f139:=⟨func139,by kernel_rfl⟩
theorem as0:aq prog 140 f140:=⟨func140,by kernel_rfl⟩
theorem ato:aq prog 141 f141:=⟨func141,by kernel_rfl⟩
theorem auo:aq prog 142 f142:=⟨func142,by kernel_rfl⟩
theorem aup:aq prog 143 f143:=⟨func143,by kernel_rfl⟩
theorem auN:aq prog 144 f144:=⟨func144,by kernel_rfl⟩
theorem Nx:aq prog 145 f145:=⟨func145,by kernel_rfl⟩
theorem Nw:aq prog 146 f146:=⟨func146,by kernel_rfl⟩
theorem Dd:aq prog 147 f147:=⟨func147,by kernel_rfl⟩
theorem Nv:aq prog 148 f148:=⟨func148,by kernel_rfl⟩
theorem Nu:aq prog 149 f149:=⟨func149,by kernel_rfl⟩
theorem Nt:aq prog 150 f150:=⟨func150,by kernel_rfl⟩
theorem Ns:aq prog 151 f151:=⟨func151,by kernel_rfl⟩
theorem Nr:aq prog 152 f152:=⟨func152,by kernel_rfl⟩
theorem awu:aq prog 153 f153:=⟨func153,by kernel_rfl⟩
theorem aww:aq prog 154 f154:=⟨func154,by kernel_rfl⟩
theorem awy:aq prog 155 f155:=⟨func155,by kernel_rfl⟩
theorem awD:aq prog 156 f156:=⟨func156,by kernel_rfl⟩
theorem ayU:aq prog 157 f157:=⟨func157,by kernel_rfl⟩
theorem ayV:aq prog 158 f158:=⟨func158,by kernel_rfl⟩
theorem aza:aq prog 159 f159:=⟨func159,by kernel_rfl⟩
theorem azk:aq prog 160 f160:=⟨func160,by kernel_rfl⟩
theorem Gi:aq prog 161 f161:=⟨func161,by kernel_rfl⟩
theorem On:aq prog 162 f162:=⟨func162,by kernel_rfl⟩
theorem Om:aq prog 163 f163:=⟨func163,by kernel_rfl⟩
theorem Ol:aq prog 164 f164:=⟨func164,by kernel_rfl⟩
theorem Ok:aq prog 165 f165:=⟨func165,by kernel_rfl⟩
theorem Oj:aq prog 166 f166:=⟨func166,by kernel_rfl⟩
theorem Oi:aq prog 167 f167:=⟨func167,by kernel_rfl⟩
theorem Oh:aq prog 168 f168:=⟨func168,by kernel_rfl⟩
theorem Og:aq prog 169 f169:=⟨func169,by kernel_rfl⟩
theorem Of:aq prog 170 f170:=⟨func170,by kernel_rfl⟩
theorem Oe:aq prog 171 f171:=⟨func171,by kernel_rfl⟩
theorem Od:aq prog 172 f172:=⟨func172,by kernel_rfl⟩
theorem Oc:aq prog 173 f173:=⟨func173,by kernel_rfl⟩
theorem Ob:aq prog 174 f174:=⟨func174,by kernel_rfl⟩
theorem Fy:aq prog 175 f175:=⟨func175,by kernel_rfl⟩
theorem Fx:aq prog 176 f176:=⟨func176,by kernel_rfl⟩
theorem Fw:aq prog 177 f177:=⟨func177,by kernel_rfl⟩
theorem Fv:aq prog 178 f178:=⟨func178,by kernel_rfl⟩
theorem Fu:aq prog 179 f179:=⟨func179,by kernel_rfl⟩
theorem Ft:aq prog 180 f180:=⟨func180,by kernel_rfl⟩
theorem Fs:aq prog 181 f181:=⟨func181,by kernel_rfl⟩
theorem Fq:aq prog 182 f182:=⟨func182,by kernel_rfl⟩
theorem Fp:aq prog 183 f183:=⟨func183,by kernel_rfl⟩
theorem Fo:aq prog 184 f184:=⟨func184,by kernel_rfl⟩
theorem Fm:aq prog 185 f185:=⟨func185,by kernel_rfl⟩
theorem azm:aq prog 186 f186:=⟨func186,by kernel_rfl⟩
theorem azo:aq prog 187 f187:=⟨func187,by kernel_rfl⟩
theorem azp:aq prog 188 f188:=⟨func188,by kernel_rfl⟩
theorem azq:aq prog 189 f189:=⟨func189,by kernel_rfl⟩
theorem Oa:aq prog 190 f190:=⟨func190,by kernel_rfl⟩
theorem azs:aq prog 191 f191:=⟨func191,by kernel_rfl⟩
theorem N9:aq prog 192 f192:=⟨func192,by kernel_rfl⟩
theorem Fl:aq prog 193 f193:=⟨func193,by kernel_rfl⟩
theorem Fk:aq prog 194 f194:=⟨func194,by kernel_rfl⟩
theorem Fj:aq prog 195 f195:=⟨func195,by kernel_rfl⟩
theorem Fi:aq prog 196 f196:=⟨func196,by kernel_rfl⟩
theorem N8:aq prog 197 f197:=⟨func197,by kernel_rfl⟩
theorem N7:aq prog 198 f198:=⟨func198,by kernel_rfl⟩
theorem Gg:aq prog 199 f199:=⟨func199,by kernel_rfl⟩
theorem Gf:aq prog 200 f200:=⟨func200,by kernel_rfl⟩
theorem Ge:aq prog 201 f201:=⟨func201,by kernel_rfl⟩
theorem Gd:aq prog 202 f202:=⟨func202,by kernel_rfl⟩
theorem Gc:aq prog 203 f203:=⟨func203,by kernel_rfl⟩
theorem Gb:aq prog 204 f204:=⟨func204,by kernel_rfl⟩
theorem Ga:aq prog 205 f205:=⟨func205,by kernel_rfl⟩
theorem F9:aq prog 206 f206:=⟨func206,by kernel_rfl⟩
theorem AJ:aq prog 207 f207:=⟨func207,by kernel_rfl⟩
theorem F8:aq prog 208 f208:=⟨func208,by kernel_rfl⟩
theorem ER:aq prog 209 f209:=⟨func209,by kernel_rfl⟩
theorem EP:aq prog 210 f210:=⟨func210,by kernel_rfl⟩
theorem EO:aq prog 211 f211:=⟨func211,by kernel_rfl⟩
theorem F7:aq prog 212 f212:=⟨func212,by kernel_rfl⟩
theorem F6:aq prog 213 f213:=⟨func213,by kernel_rfl⟩
theorem F5:aq prog 214 f214:=⟨func214,by kernel_rfl⟩
theorem Ao:aq prog 215 f215:=⟨func215,by kernel_rfl⟩
theorem azv:aq prog 216 f216:=⟨func216,by kernel_rfl⟩
theorem azw:aq prog 217 f217:=⟨func217,by kernel_rfl⟩
theorem azy:aq prog 218 f218:=⟨func218,by kernel_rfl⟩
theorem azz:aq prog 219 f219:=⟨func219,by kernel_rfl⟩
theorem azA:aq prog 220 f220:=⟨func220,by kernel_rfl⟩
theorem azB:aq prog 221 f221:=⟨func221,by kernel_rfl⟩
theorem azC:aq prog 222 f222:=⟨func222,by kernel_rfl⟩
theorem azD:aq prog 223 f223:=⟨func223,by kernel_rfl⟩
theorem azF:aq prog 224 f224:=⟨func224,by kernel_rfl⟩
theorem azG:aq prog 225 f225:=⟨func225,by kernel_rfl⟩
theorem azH:aq prog 226 f226:=⟨func226,by kernel_rfl⟩
theorem azI:aq prog 227 f227:=⟨func227,by kernel_rfl⟩
theorem azJ:aq prog 228 f228:=⟨func228,by kernel_rfl⟩
theorem N6:aq prog 229 f229:=⟨func229,by kernel_rfl⟩
theorem N5:aq prog 230 f230:=⟨func230,by kernel_rfl⟩
theorem N4:aq prog 231 f231:=⟨func231,by kernel_rfl⟩
theorem N3:aq prog 232 f232:=⟨func232,by kernel_rfl⟩
theorem N2:aq prog 233 f233:=⟨func233,by kernel_rfl⟩
theorem N1:aq prog 234 f234:=⟨func234,by kernel_rfl⟩
theorem NZ:aq prog 235 f235:=⟨func235,by kernel_rfl⟩
theorem NY:aq prog 236 f236:=⟨func236,by kernel_rfl⟩
theorem NX:aq prog 237 f237:=⟨func237,by kernel_rfl⟩
theorem Mk:aq prog 238 f238:=⟨func238,by kernel_rfl⟩
theorem Mj:aq prog 239 f239:=⟨func239,by kernel_rfl⟩
theorem Mi:aq prog 240 f240:=⟨func240,by kernel_rfl⟩
theorem EN:aq prog 241 f241:=⟨func241,by kernel_rfl⟩
theorem azL:aq prog 242 f242:=⟨func242,by kernel_rfl⟩
theorem F4:aq prog 243 f243:=⟨func243,by kernel_rfl⟩
theorem F3:aq prog 244 f244:=⟨func244,by kernel_rfl⟩
theorem Mh:aq prog 245 f245:=⟨func245,by kernel_rfl⟩
theorem yR:aq prog 246 f246:=⟨func246,by kernel_rfl⟩
theorem Mg:aq prog 247 f247:=⟨func247,by kernel_rfl⟩
theorem Dc:aq prog 248 f248:=⟨func248,by kernel_rfl⟩
theorem Mf:aq prog 249 f249:=⟨func249,by kernel_rfl⟩
theorem Me:aq prog 250 f250:=⟨func250,by kernel_rfl⟩
theorem Md:aq prog 251 f251:=⟨func251,by kernel_rfl⟩
theorem azM:aq prog 252 f252:=⟨func252,by kernel_rfl⟩
theorem Mc:aq prog 253 f253:=⟨func253,by kernel_rfl⟩
theorem Mb:aq prog 254 f254:=⟨func254,by kernel_rfl⟩
theorem vm:aq prog 255 f255:=⟨func255,by kernel_rfl⟩
theorem MK:aq prog 256 f256:=⟨func256,by kernel_rfl⟩
theorem MJ:aq prog 257 f257:=⟨func257,by kernel_rfl⟩
theorem MI:aq prog 258 f258:=⟨func258,by kernel_rfl⟩
theorem MH:aq prog 259 f259:=⟨func259,by kernel_rfl⟩
theorem EM:aq prog 260 f260:=⟨func260,by kernel_rfl⟩
theorem An:aq prog 261 f261:=⟨func261,by kernel_rfl⟩
theorem EL:aq prog 262 f262:=⟨func262,by kernel_rfl⟩
theorem MG:aq prog 263 f263:=⟨func263,by kernel_rfl⟩
theorem EK:aq prog 264 f264:=⟨func264,by kernel_rfl⟩
theorem EJ:aq prog 265 f265:=⟨func265,by kernel_rfl⟩
theorem EI:aq prog 266 f266:=⟨func266,by kernel_rfl⟩
theorem EH:aq prog 267 f267:=⟨func267,by kernel_rfl⟩
theorem E5:aq prog 268 f268:=⟨func268,by kernel_rfl⟩
theorem azO:aq prog 269 f269:=⟨func269,by kernel_rfl⟩
theorem azQ:aq prog 270 f270:=⟨func270,by kernel_rfl⟩
theorem Db:aq prog 271 f271:=⟨func271,by kernel_rfl⟩
theorem azR:aq prog 272 f272:=⟨func272,by kernel_rfl⟩
theorem MF:aq prog 273 f273:=⟨func273,by kernel_rfl⟩
theorem azS:aq prog 274 f274:=⟨func274,by kernel_rfl⟩
theorem F2:aq prog 275 f275:=⟨func275,by kernel_rfl⟩
theorem AH:aq prog 276 f276:=⟨func276,by kernel_rfl⟩
theorem E4:aq prog 277 f277:=⟨func277,by kernel_rfl⟩
theorem E3:aq prog 278 f278:=⟨func278,by kernel_rfl⟩
theorem E0:aq prog 279 f279:=⟨func279,by kernel_rfl⟩
theorem EZ:aq prog 280 f280:=⟨func280,by kernel_rfl⟩
theorem FL:aq prog 281 f281:=⟨func281,by kernel_rfl⟩
theorem FK:aq prog 282 f282:=⟨func282,by kernel_rfl⟩
theorem FJ:aq prog 283 f283:=⟨func283,by kernel_rfl⟩
theorem azT:aq prog 284 f284:=⟨func284,by kernel_rfl⟩
theorem azU:aq prog 285 f285:=⟨func285,by kernel_rfl⟩
theorem azV:aq prog 286 f286:=⟨func286,by kernel_rfl⟩
theorem azW:aq prog 287 f287:=⟨func287,by kernel_rfl⟩
theorem azX:aq prog 288 f288:=⟨func288,by kernel_rfl⟩
theorem azY:aq prog 289 f289:=⟨func289,by kernel_rfl⟩
theorem az0:aq prog 290 f290:=⟨func290,by kernel_rfl⟩
theorem az1:aq prog 291 f291:=⟨func291,by kernel_rfl⟩
theorem ME:aq prog 292 f292:=⟨func292,by kernel_rfl⟩
theorem MD:aq prog 293 f293:=⟨func293,by kernel_rfl⟩
theorem MC:aq prog 294 f294:=⟨func294,by kernel_rfl⟩
theorem MB:aq prog 295 f295:=⟨func295,by kernel_rfl⟩
theorem MA:aq prog 296 f296:=⟨func296,by kernel_rfl⟩
theorem Mz:aq prog 297 f297:=⟨func297,by kernel_rfl⟩
theorem FI:aq prog 298 f298:=⟨func298,by kernel_rfl⟩
theorem My:aq prog 299 f299:=⟨func299,by kernel_rfl⟩
theorem Mx:aq prog 300 f300:=⟨func300,by kernel_rfl⟩
theorem az4:aq prog 301 f301:=⟨func301,by kernel_rfl⟩
theorem Mw:aq prog 302 f302:=⟨func302,by kernel_rfl⟩
theorem Mv:aq prog 303 f303:=⟨func303,by kernel_rfl⟩
theorem az5:aq prog 304 f304:=⟨func304,by kernel_rfl⟩
theorem Da:aq prog 305 f305:=⟨func305,by kernel_rfl⟩
theorem Mu:aq prog 306 f306:=⟨func306,by kernel_rfl⟩
theorem Mt:aq prog 307 f307:=⟨func307,by kernel_rfl⟩
theorem Ms:aq prog 308 f308:=⟨func308,by kernel_rfl⟩
theorem az6:aq prog 309 f309:=⟨func309,by kernel_rfl⟩
theorem az8:aq prog 310 f310:=⟨func310,by kernel_rfl⟩
theorem Mr:aq prog 311 f311:=⟨func311,by kernel_rfl⟩
theorem Mq:aq prog 313 f313:=⟨func313,by kernel_rfl⟩
theorem Mp:aq prog 314 f314:=⟨func314,by kernel_rfl⟩
theorem az9:aq prog 315 f315:=⟨func315,by kernel_rfl⟩
theorem Mo:aq prog 316 f316:=⟨func316,by kernel_rfl⟩
theorem Mn:aq prog 317 f317:=⟨func317,by kernel_rfl⟩
theorem Mm:aq prog 318 f318:=⟨func318,by kernel_rfl⟩
theorem EY:aq prog 319 f319:=⟨func319,by kernel_rfl⟩
theorem Ml:aq prog 320 f320:=⟨func320,by kernel_rfl⟩
theorem Nf:aq prog 321 f321:=⟨func321,by kernel_rfl⟩
theorem Nd:aq prog 322 f322:=⟨func322,by kernel_rfl⟩
theorem aAc:aq prog 323 f323:=⟨func323,by kernel_rfl⟩
theorem aAd:aq prog 324 f324:=⟨func324,by kernel_rfl⟩
theorem FH:aq prog 325 f325:=⟨func325,by kernel_rfl⟩
theorem EX:aq prog 326 f326:=⟨func326,by kernel_rfl⟩
theorem EW:aq prog 327 f327:=⟨func327,by kernel_rfl⟩
theorem FG:aq prog 328 f328:=⟨func328,by kernel_rfl⟩
theorem FF:aq prog 329 f329:=⟨func329,by kernel_rfl⟩
theorem Nc:aq prog 330 f330:=⟨func330,by kernel_rfl⟩
theorem Nb:aq prog 331 f331:=⟨func331,by kernel_rfl⟩
theorem Na:aq prog 332 f332:=⟨func332,by kernel_rfl⟩
theorem aAe:aq prog 333 f333:=⟨func333,by kernel_rfl⟩
theorem M9:aq prog 334 f334:=⟨func334,by kernel_rfl⟩
theorem aAf:aq prog 335 f335:=⟨func335,by kernel_rfl⟩
theorem M8:aq prog 336 f336:=⟨func336,by kernel_rfl⟩
theorem M7:aq prog 337 f337:=⟨func337,by kernel_rfl⟩
theorem aAg:aq prog 338 f338:=⟨func338,by kernel_rfl⟩
theorem aAh:aq prog 339 f339:=⟨func339,by kernel_rfl⟩
theorem aAi:aq prog 340 f340:=⟨func340,by kernel_rfl⟩
theorem aAj:aq prog 341 f341:=⟨func341,by kernel_rfl⟩
theorem aAk:aq prog 342 f342:=⟨func342,by kernel_rfl⟩
theorem M6:aq prog 343 f343:=⟨func343,by kernel_rfl⟩
theorem aAl:aq prog 344 f344:=⟨func344,by kernel_rfl⟩
theorem aAm:aq prog 345 f345:=⟨func345,by kernel_rfl⟩
theorem aAo:aq prog 346 f346:=⟨func346,by kernel_rfl⟩
theorem aAq:aq prog 347 f347:=⟨func347,by kernel_rfl⟩
theorem aAr:aq prog 348 f348:=⟨func348,by kernel_rfl⟩
theorem M5:aq prog 349 f349:=⟨func349,by kernel_rfl⟩
theorem EV:aq prog 351 f351:=⟨func351,by kernel_rfl⟩
theorem aAs:aq prog 352 f352:=⟨func352,by kernel_rfl⟩
theorem aAt:aq prog 353 f353:=⟨func353,by kernel_rfl⟩
theorem aAu:aq prog 354 f354:=⟨func354,by kernel_rfl⟩
theorem aAw:aq prog 355 f355:=⟨func355,by kernel_rfl⟩
theorem aAx:aq prog 356 f356:=⟨func356,by kernel_rfl⟩
theorem aAy:aq prog 357 f357:=⟨func357,by kernel_rfl⟩
theorem aAz:aq prog 358 f358:=⟨func358,by kernel_rfl⟩
theorem aAA:aq prog 360 f360:=⟨func360,by kernel_rfl⟩
theorem aAB:aq prog 362 f362:=⟨func362,by kernel_rfl⟩
theorem aAC:aq prog 363 f363:=⟨func363,by kernel_rfl⟩
theorem aAD:aq prog 364 f364:=⟨func364,by kernel_rfl⟩
theorem aAE:aq prog 365 f365:=⟨func365,by kernel_rfl⟩
theorem aAF:aq prog 366 f366:=⟨func366,by kernel_rfl⟩
theorem aAG:aq prog 367 f367:=⟨func367,by kernel_rfl⟩
theorem aAH:aq prog 368 f368:=⟨func368,by kernel_rfl⟩
theorem aAI:aq prog 369 f369:=⟨func369,by kernel_rfl⟩
theorem aAJ:aq prog 370 f370:=⟨func370,by kernel_rfl⟩
theorem aAK:aq prog 371 f371:=⟨func371,by kernel_rfl⟩
theorem M0:aq prog 372 f372:=⟨func372,by kernel_rfl⟩
theorem MZ:aq prog 373 f373:=⟨func373,by kernel_rfl⟩
theorem aAL:aq prog 374 f374:=⟨func374,by kernel_rfl⟩
theorem aAM:aq prog 375 f375:=⟨func375,by kernel_rfl⟩
theorem aAN:aq prog 376 f376:=⟨func376,by kernel_rfl⟩
theorem aAO:aq prog 377 f377:=⟨func377,by kernel_rfl⟩
theorem aAP:aq prog 378 f378:=⟨func378,by kernel_rfl⟩
theorem aAQ:aq prog 379 f379:=⟨func379,by kernel_rfl⟩
theorem aAR:aq prog 382 f382:=⟨func382,by kernel_rfl⟩
theorem aAS:aq prog 383 f383:=⟨func383,by kernel_rfl⟩
theorem aAT:aq prog 384 f384:=⟨func384,by kernel_rfl⟩
theorem aAU:aq prog 385 f385:=⟨func385,by kernel_rfl⟩
theorem MY:aq prog 386 f386:=⟨func386,by kernel_rfl⟩
theorem aAV:aq prog 387 f387:=⟨func387,by kernel_rfl⟩
theorem aAW:aq prog 388 f388:=⟨func388,by kernel_rfl⟩
theorem aBg:aq prog 389 f389:=⟨func389,by kernel_rfl⟩
theorem aBn:aq prog 390 f390:=⟨func390,by kernel_rfl⟩
theorem aBP:aq prog 391 f391:=⟨func391,by kernel_rfl⟩
theorem aBT:aq prog 392 f392:=⟨func392,by kernel_rfl⟩
theorem aBV:aq prog 393 f393:=⟨func393,by kernel_rfl⟩
theorem aB7:aq prog 394 f394:=⟨func394,by kernel_rfl⟩
theorem aCa:aq prog 395 f395:=⟨func395,by kernel_rfl⟩
theorem aCk:aq prog 396 f396:=⟨func396,by kernel_rfl⟩
theorem aCl:aq prog 397 f397:=⟨func397,by kernel_rfl⟩
theorem aCn:aq prog 398 f398:=⟨func398,by kernel_rfl⟩
theorem aCu:aq prog 432 f432:=⟨func432,by kernel_rfl⟩
set_option maxHeartbeats 4000000
set_option maxRecDepth 100000
def wB:Nat:=18446744073709551616
theorem qD(x y c:Nat)(hc:c<=1):au prog 312 [.int .u64 x,.int .u64 y,.int .u64 c] (.aC [.int .u64 ((x+y+c)% wB:Nat),.int .u64 ((x+y+c)/wB:Nat)]):=by
 refine .inr fun w ad a h=>?_;simp only[bJ,aD]at h;obtain⟨_,_,rfl,rfl,_,_,rfl,rfl,_,_,rfl,rfl,rfl⟩:=h;refine⟨.tuple #[.int .u64 ((x+y+c)% wB:Nat),.int .u64 ((x+y+c)/wB:Nat)],?_,?_⟩
 ·show(callFunc 312 #[.int .u64 x,.int .u64 y,.int .u64 c]).run prog w=_;rw[ay func312 (by kernel_rfl) (by kernel_rfl) (by kernel_rfl) (e:=add64Entry) (by kernel_rfl),run_add64 x y c (by omega) (by omega) (by omega) (by omega)];simp only[Result.andThen,wB];congr 5<;>omega
 ·simp only[aD,bJ];exact⟨[.int .u64 ((x+y+c)% wB:Nat),.int .u64 ((x+y+c)/wB:Nat)],⟨_,_,rfl,rfl,_,_,rfl,rfl,rfl⟩,rfl⟩
theorem YH(x y c:Nat)(hc:c<=1):au prog 350 [.int .u64 x,.int .u64 y,.int .u64 c] (.aC [.int .u64 ((x+wB-y-c)% wB:Nat),.int .u64 ((if x<y+c then 1 else 0:Nat):Int)]):=by
 refine .inr fun w ad a h=>?_;simp only[bJ,aD]at h;obtain⟨_,_,rfl,rfl,_,_,rfl,rfl,_,_,rfl,rfl,rfl⟩:=h;refine⟨.tuple #[.int .u64 ((x+wB-y-c)% wB:Nat),.int .u64 ((if x<y+c then 1 else 0:Nat):Int)],?_,?_⟩
 ·show(callFunc 350 #[.int .u64 x,.int .u64 y,.int .u64 c]).run prog w=_;rw[ay func350 (by kernel_rfl) (by kernel_rfl) (by kernel_rfl) (e:=sub64Entry) (by kernel_rfl),run_sub64 x y c hc];rfl
 ·simp only[aD,bJ];exact⟨[.int .u64 ((x+wB-y-c)% wB:Nat),.int .u64 ((if x<y+c then 1 else 0:Nat):Int)],⟨_,_,rfl,rfl,_,_,rfl,rfl,rfl⟩,rfl⟩
def mL(B:Nat):Nat->Nat->List Nat
 |0,_=>[]
 |f+1,n=>if n=0 then[]else n% B::mL B f (n/B)
def aw(B n:Nat):List Nat:=mL B (n+1) n
def iM(B:Nat):List Nat->Nat
 |[]=>0
 |d::l=>d+B*iM B l
def ae(B n i:Nat):Nat:=n/B^i% B
section
variable{B:Nat}
theorem Ho(a:2<=B):∀(f g n:Nat),n<f->n<g->mL B f n=mL B g n
 |0,_,_,h,_=>by omega
 |_,0,_,_,h=>by omega
 |f+1,g+1,n,b,c=>by
  simp only[mL]
  split
  ·rfl
  ·rename_i d;have:n/B<n:=e7 (by omega) (by omega);rw[Ho a f g (n/B) (by omega) (by omega)]
theorem mq:aw B 0=[]:=by simp[aw,mL]
theorem sQ(a:2<=B){n:Nat}(h:n≠0):aw B n=n% B::aw B (n/B):=by
 have:n/B<n:=e7 (by omega) (by omega);rw[aw,mL,if_neg h,aw,Ho a n (n/B+1) (n/B) this (by omega)]
theorem Jm(a:2<=B)(n:Nat):iM B (aw B n)=n:=by
 induction n using gx with
 |ind n b=>
  by_cases h:n=0
  ·subst h;simp[mq,iM]
  ·rw[sQ a h,iM,b _ (e7 (by omega) (by omega))];exact dg n B
theorem Zw(a:2<=B):∀(i n:Nat),(aw B n)[i]?.getD 0=ae B n i
 |i,n=>by
  induction i generalizing n with
  |zero=>
   by_cases h:n=0
   ·subst h;simp[mq,ae]
   ·rw[sQ a h];simp[ae]
  |succ i b=>
   by_cases h:n=0
   ·subst h;simp[mq,ae]
   ·rw[sQ a h,List.getElem?_cons_succ,b];simp only[ae,ck,cx];rw[cc B]
theorem ey(a:2<=B){n i:Nat}(h:i<(aw B n).length):(aw B n)[i]=ae B n i:=by
 have:=Zw a i n;rw[List.getElem?_eq_getElem h]at this;exact this
theorem ch(b:2<=B)(n:Nat):n<B^(aw B n).length:=by
 induction n using gx with
 |ind n c=>
  by_cases h:n=0
  ·subst h;simp[mq]
  ·rw[sQ b h,b1,cx];have:=c _ (e7 (n:=n) (k:=B) (by omega) (by omega));have d:=dg n B;have e:=dl n (show 0<B by omega);have a:(n/B+1)*B<=B^(aw B (n/B)).length*B:=c6 B this;rw[ea,cc (n/B) B]at a;omega
theorem dJ(b:2<=B):∀(k n:Nat),n<B^k->(aw B n).length<=k
 |0,n,h=>by
  have:n=0:=by simpa using h
  subst this;simp[mq]
 |k+1,n,h=>by
  by_cases a:n=0
  ·subst a;simp[mq]
  ·rw[sQ b a,b1];have:=dJ b k (n/B) (by
    rw[ce (by omega),<-cx];exact h)
   omega
theorem H5(a:2<=B){k n:Nat}(h:B^k<=n):k<(aw B n).length:=by
 have:=ch a n;exact(Nat.pow_lt_pow_iff_right (by omega:1<B)).1 (ec h this)
def eg:List Nat->List Nat
 |[]=>[]
 |d::l=>match eg l with
  |[]=>if d=0 then[]else[d]
  |t=>d::t
theorem Cw(a:2<=B):∀{l:List Nat},(∀d∈l,d<B)->aw B (iM B l)=eg l
 |[],_=>by simp[iM,mq,eg]
 |d::l,h=>by
  have c:=Cw a (l:=l) fun x hx=>h x (List.mem_cons_of_mem _ hx);have f:=h d List.mem_cons_self;simp only[eg,iM]
  by_cases b:d+B*iM B l=0
  ·have k:d=0:=by omega
   have m:iM B l=0:=by
    rcases Nat.mul_eq_zero.1 (show B*iM B l=0 by omega)with e|e
    ·omega
    ·exact e
   rw[b,mq,<-c,m,mq];simp[k]
  ·rw[sQ a b];have e1:(d+B*iM B l)% B=d:=by rw[eo,cv f]
   have e2:(d+B*iM B l)/B=iM B l:=by
    rw[da _ _ (by omega),c9 f,g4]
   rw[e1,e2,c]
   split
   ·rename_i g;have i:=c;rw[g,j a]at i;rw[if_neg (by rw[i]at b;simpa using b),g]
   ·rfl
where j (a:2<=B) {n:Nat}:(aw B n=[])=(n=0):=by
        apply propext;constructor
        ·intro h;rw[<-Jm a n,h];rfl
        ·rintro rfl;exact mq
def row(B m n:Nat):List Nat:=(a7 m).map (ae B n)
theorem K7{m n:Nat}:(row B m n).length=m:=by simp[row]
theorem WZ(m n:Nat):row B (m+1) n=n% B::row B m (n/B):=by
 rw[row,List.range_succ_eq_map,bl,bo];congr 1
 ·simp[ae]
 ·rw[row];apply bp;intro i _;simp only[Function.comp,ae,ck,cx];rw[cc]
theorem K6(a:2<=B):∀(m n:Nat),iM B (row B m n)=n% B^m
 |0,n=>by simp[row,iM,ew]
 |m+1,n=>by
  rw[WZ,iM,K6 a m,cx,cc (B^m),fw]
theorem jo(a:2<=B){m n:Nat}(h:n<B^m):eg (row B m n)=aw B n:=by
 rw[<-Cw a (l:=row B m n),K6 a,cv h];intro d b;simp only[row,bi]at b;obtain⟨i,_,rfl⟩:=b;exact dl _ (by omega)
theorem Zx(b:2<=B)(n:Nat):aw B n=row B (aw B n).length n:=by
 apply a8 (by simp[row]);intro i a c;rw[ey b a];simp[row]
end
section
variable{B:Nat}
theorem mod_pow_succ(n i:Nat):n% B^(i+1)=n% B^i+B^i*ae B n i:=by
 rw[cx,fw,ae]
def de(B a b i:Nat):Nat:=(a% B^i+b% B^i)/B^i
theorem xl(a b:Nat):de B a b 0=0:=by simp[de,ew]
theorem lG(f:2<=B)(a b i:Nat):de B a b i<=1:=by
 have c:0<B^i:=cy (by omega);have d:=dl a c;have e:=dl b c;rw[de];have:(a% B^i+b% B^i)/B^i<2:=by rw[ce c];omega
 omega
theorem p0(e:2<=B)(a b i:Nat):(ae B a i+ae B b i+de B a b i)% B=ae B (a+b) i/\(ae B a i+ae B b i+de B a b i)/B=de B a b (i+1):=by
 have c:0<B^i:=cy (by omega);constructor
 ·have d:(a+b)/B^i=de B a b i+(a/B^i+b/B^i):=by
   rw[de]
   conv=>lhs;rw[<-dg a (B^i),<-dg b (B^i)]
   rw[show a% B^i+B^i*(a/B^i)+(b% B^i+B^i*(b/B^i))=(a% B^i+b% B^i)+B^i*(a/B^i+b/B^i)by rw[dz];omega];rw[da _ _ c]
  rw[ae,ae,ae,d,fm,<-fm (a/B^i),<-fm,e6]
 ·conv=>rhs;rw[de,mod_pow_succ,mod_pow_succ,cx,<-ck]
  rw[show a% B^i+B^i*ae B a i+(b% B^i+B^i*ae B b i)=(a% B^i+b% B^i)+B^i*(ae B a i+ae B b i)by rw[dz];omega];rw[da _ _ c,de,e6 ((a% B^i+b% B^i)/B^i)]
theorem jn{n i:Nat}(h:n<B^i):ae B n i=0:=by
 rw[ae,c9 h,Nat.zero_mod]
theorem cr(a:2<=B)(n i:Nat):ae B n i<B:=dl _ (by omega)
def eU(B a b i:Nat):Nat:=if a% B^i<b% B^i then 1 else 0
theorem A2(a b:Nat):eU B a b 0=0:=by simp[eU,ew]
theorem Jt(d:2<=B){a b:Nat}(k:b<=a)(i:Nat):
 (ae B a i<ae B b i+eU B a b i/\eU B a b (i+1)=1/\ae B a i+B=ae B (a-b) i+(ae B b i+eU B a b i))\/
 (ae B b i+eU B a b i<=ae B a i/\eU B a b (i+1)=0/\ae B a i=ae B (a-b) i+(ae B b i+eU B a b i)):=by
 have g:0<B^i:=cy (by omega);obtain⟨c,rfl⟩:=Nat.le.dest k;have j:=p0 d b c i;rw[show b+c-b=c by omega];have hc:∀i,eU B (b+c) b i=de B b c i:=by
  intro i;have g:0<B^i:=cy (by omega);have l:=dl b g;have m:=dl c g;rw[eU,de,fm]
  by_cases h:b% B^i+c% B^i<B^i
  ·rw[cv h,c9 h,if_neg (Nat.not_lt.2 (Nat.le_add_right _ _))]
  ·have e1:(b% B^i+c% B^i)/B^i=1:=by
    rw[show b% B^i+c% B^i=(b% B^i+c% B^i-B^i)+B^i*1 by omega,da _ _ g,c9 (by omega)]
   have e2:(b% B^i+c% B^i)% B^i=b% B^i+c% B^i-B^i:=by
    rw[Nat.mod_eq_sub_mod (by omega),cv (by omega)]
   rw[e1,e2,if_pos (by omega)]
 rw[hc,hc];have n:=cr d b i;have o:=cr d c i;have p:=lG d b c i;have f:=dg (ae B b i+ae B c i+de B b c i) B;rw[j.1,j.2]at f;have q:=lG d b c (i+1);have r:=cr d (b+c) i;rcases(show de B b c (i+1)=0\/de B b c (i+1)=1 by omega)with e|e
 ·right;rw[e]at f⊢;simp at f;exact⟨by omega,rfl,by omega⟩
 ·left;rw[e]at f⊢;simp at f;exact⟨by omega,rfl,by omega⟩
def iL(B a b i j:Nat):Nat:=(a% B^i)*b+ae B a i*(b% B^j)*B^i
def df(B a b i j k:Nat):Nat:=if k<i+j then ae B (iL B a b i j) k else ae B ((a% B^i)*b) k
def mulC(B a b i j:Nat):Nat:=iL B a b i j/B^(i+j)-(a% B^i)*b/B^(i+j)
theorem aHa(a b i j:Nat):(a% B^i)*b<=iL B a b i j:=by rw[iL];omega
theorem Iq(a b i:Nat):iL B a b i 0=(a% B^i)*b:=by simp[iL,ew]
theorem Bn(a b i:Nat):mulC B a b i 0=0:=by simp[mulC,Iq]
theorem Is(a b i j:Nat):iL B a b i (j+1)=iL B a b i j+ae B a i*ae B b j*B^(i+j):=by
 rw[iL,iL,mod_pow_succ,dz,ea,eq];have:ae B a i*(B^j*ae B b j)*B^i=ae B a i*ae B b j*(B^i*B^j):=by
  rw[cc (B^j),<-db,db,cc (B^j)]
 omega
theorem J8(a b i:Nat){n:Nat}(h:b<B^n):iL B a b i n=(a% B^(i+1))*b:=by
 rw[iL,cv h,mod_pow_succ,ea];congr 1;rw[ge,cc (ae B a i)]
theorem wX(n k:Nat):n/B^(k+1)=n/B^k/B:=by rw[cx,ck]
theorem B7(g:2<=B)(a b i j:Nat):
 (ae B a i*ae B b j+df B a b i j (i+j)+mulC B a b i j)% B=ae B (iL B a b i (j+1)) (i+j)/\
 (ae B a i*ae B b j+df B a b i j (i+j)+mulC B a b i j)/B=mulC B a b i (j+1):=by
 have f:0<B^(i+j):=cy (by omega);have d:iL B a b i (j+1)/B^(i+j)=iL B a b i j/B^(i+j)+ae B a i*ae B b j:=by
  rw[Is,ed _ _ f]
 have h:(a% B^i)*b/B^(i+j)<=iL B a b i j/B^(i+j):=e9 (aHa a b i j);have c:df B a b i j (i+j)=(a% B^i)*b/B^(i+j)% B:=by rw[df,if_neg (by omega),ae]
 have e:ae B a i*ae B b j+df B a b i j (i+j)+mulC B a b i j+B*((a% B^i)*b/B^(i+j)/B)=iL B a b i (j+1)/B^(i+j):=by
  rw[d,c,mulC];have:=dg ((a% B^i)*b/B^(i+j)) B;omega
 constructor
 ·conv=>rhs;rw[ae,<-e]
  rw[eo]
 ·conv=>rhs;rw[mulC,show i+(j+1)=i+j+1 from rfl,wX,wX,<-e,da _ _ (by omega)]
  rw[gi]
theorem It(f:2<=B){a b i j k:Nat}(hk:k≠i+j):df B a b i (j+1) k=df B a b i j k:=by
 rw[df,df]
 by_cases h:k<i+j
 ·rw[if_pos (by omega),if_pos h,Is];have e:0<B^k:=cy (by omega);obtain⟨d,c⟩:∃d,i+j=k+1+d:=⟨i+j-(k+1),by
   have:k+1<=i+j:=h;rw[Nat.add_sub_cancel' this]⟩
  rw[c,eq,cx];generalize ae B a i*ae B b j=x;rw[ae,ae,show x*(B^k*B*B^d)=x*B^d*B*B^k by simp only[db,cc,gj]];rw[ed _ _ e,en]
 ·rw[if_neg (by omega),if_neg h]
theorem J9(a b i j:Nat):df B a b i (j+1) (i+j)=ae B (iL B a b i (j+1)) (i+j):=by
 rw[df,if_pos (by omega)]
theorem uS(d:2<=B)(a:Nat){b n:Nat}(i:Nat)(h:b<B^n):(a% B^i)*b<B^(i+n):=by
 have c:0<B^i:=cy (by omega);rw[eq];exact ee (dl _ c) h
theorem G2(c:2<=B){a b i n:Nat}(h:b<B^n):mulC B a b i n=ae B ((a% B^(i+1))*b) (i+n):=by
 have h1:=uS c a i h;have d:=uS c a (i+1) h;rw[mulC,J8 a b i h,c9 h1,Nat.sub_zero];refine(cv ?_).symm;rw[ce (cy (by omega)),cc B,<-cx,show(i+n).succ=i+1+n by omega];exact d
theorem oJ(a b i k:Nat):df B a b i 0 k=ae B ((a% B^i)*b) k:=by
 rw[df,Iq];split<;>rfl
theorem Ka(c:2<=B){a b i n k:Nat}(h:b<B^n)(hk:k≠i+n):df B a b i n k=ae B ((a% B^(i+1))*b) k:=by
 rw[df]
 split
 ·rw[J8 a b i h]
 ·rename_i h1;have e1:(a% B^i)*b<B^k:=eb (uS c a i h) (ei (by omega) (by omega));have e2:(a% B^(i+1))*b<B^k:=eb (uS c a (i+1) h) (ei (by omega) (by omega));rw[jn e1,jn e2]
theorem sO(d:2<=B)(a b i:Nat):∀j,mulC B a b i j<B
 |0=>by rw[Bn];omega
 |j+1=>by
  have h:=(B7 d a b i j).2;have f:=sO d a b i j;have g:df B a b i j (i+j)<B:=by rw[df];split<;>exact cr d _ _
  have e:ae B a i*ae B b j<=(B-1)*(B-1):=g0 (by have:=cr d a i;omega) (by have:=cr d b j;omega);rw[<-h,ce (by omega)];obtain⟨c,rfl⟩:∃c,B=c+1:=⟨B-1,by omega⟩
  simp only[gi]at e;rw[ea,dz];omega
end
section
variable{B:Nat}
theorem HY{V W d:Nat}(a:0<V/d):W/V<=W/d/(V/d):=by
 have e:0<d:=by
  rcases em d with h|h
  ·subst h;simp at a
  ·exact h
 have f:0<V:=by
  rcases em V with h|h
  ·subst h;simp at a
  ·exact h
 rw[dp a,dp e];have b:W/V*V<=W:=ej W V;have c:V/d*d<=V:=ej V d
 calc W/V*(V/d)*d=W/V*(V/d*d):=db _ _ _
  _<=W/V*V:=dq _ c
  _<=W:=b
theorem VS{V W d q:Nat}(f:0<d)(e:0<V)(h:W/d<q*(V/d)):W/V<q:=by
 rw[ce e];have b:W<(W/d+1)*d:=by
  have:=gg (a:=W) f;rw[ea];omega
 have c:V/d*d<=V:=ej V d
 calc W<(W/d+1)*d:=b
  _<=q*(V/d)*d:=c6 _ h
  _=q*(V/d*d):=db _ _ _
  _<=q*V:=dq _ c
theorem Us{V W d q:Nat}(c:0<d)(i:q*d<=V)(b:0<V)(h:q*(V/d)<=W/d):q<=W/V+1:=by
 rcases em q with hq|hq
 ·subst hq;exact Nat.zero_le _
 have:q-1<=W/V:=by
  rw[dp b,Nat.sub_mul,fd];have a:V<=V/d*d+d:=Nat.le_of_lt (gg c);have e:W/d*d<=W:=ej W d;have f:q*V<=q*(V/d)*d+q*d:=by
   calc q*V<=q*(V/d*d+d):=dq _ a
    _=q*(V/d)*d+q*d:=by rw[dz,db]
  have g:q*(V/d)*d<=W/d*d:=c6 _ h;omega
 omega
theorem BT{q b c T a r:Nat}(d:q*b+r=T):q*(b*B+c)<=T*B+a↔q*c<=r*B+a:=by
 subst d;rw[dz,ea,db];omega
theorem rY(n k:Nat):n/B^k=n/B^(k+1)*B+ae B n k:=by
 rw[wX,ae,cc];exact(dk _ _).symm
theorem qu(n j i:Nat):ae B (n/B^j) i=ae B n (j+i):=by
 rw[ae,ae,ck,eq]
theorem Cz{n m i:Nat}(h:i<m):ae B (n% B^m) i=ae B n i:=by
 obtain⟨d,rfl⟩:∃d,m=i+(d+1):=⟨m-i-1,by omega⟩
 rw[ae,ae,eq,Nat.mod_mul_right_div_self,cx,cc (B^d),e8]
theorem xe{n c m i:Nat}(h:i<m):ae B (n+c*B^m) i=ae B n i:=by
 rw[<-Cz (n:=n+c*B^m) h,en,Cz h]
def Qi(B W V q n:Nat):Nat:=W+B^(n+1)-q*V
theorem aH7{W V q n:Nat}(h:q*V<=W){i:Nat}(hi:i<n+1):ae B (Qi B W V q n) i=ae B (W-q*V) i:=by
 rw[Qi,show W+B^(n+1)-q*V=(W-q*V)+1*B^(n+1)by omega,xe hi]
theorem Iv(b:2<=B){R d j:Nat}(k:Nat):ae B (R% B^j+d*B^j) k=if k<j then ae B R k else ae B d (k-j):=by
 have a:0<B^j:=cy (by omega)
 split
 ·rename_i h;rw[xe h,Cz h]
 ·rename_i h;obtain⟨e,rfl⟩:∃e,k=j+e:=⟨k-j,by omega⟩
  rw[<-qu,ed _ _ a,c9 (dl _ a),g4,Nat.add_sub_cancel_left]
theorem xy{R V j:Nat}:R% (V*B^j)=R% B^j+(R/B^j% V)*B^j/\R/(V*B^j)=R/B^j/V:=by
 constructor
 ·rw[cc V,fw,cc (B^j)]
 ·rw[cc V,ck]
end
section
variable{c v1 v0 T u1 q r:Nat}
def hq(c b a T u1:Nat):Nat:=(T*c+u1)/(b*c+a)
theorem O6(a:T<v1*c+v0)(b:u1<c):hq c v1 v0 T u1<c:=by
 rw[hq,ce (by omega)]
 calc T*c+u1<T*c+c:=by omega
  _=(T+1)*c:=by rw[ea,fd]
  _<=(v1*c+v0)*c:=c6 _ a
  _=c*(v1*c+v0):=cc _ _
theorem Lx(e:0<v1)(g:v0<c)(f:u1<c):hq c v1 v0 T u1<=T/v1:=by
 have hc:0<c:=by omega
 have a:(v1*c+v0)/c=v1:=by rw[cc,gy hc,c9 g,g6]
 have b:(T*c+u1)/c=T:=by rw[cc,gy hc,c9 f,g6]
 have h:=HY (V:=v1*c+v0) (W:=T*c+u1) (d:=c) (by rw[a];exact e)
 rwa [a,b]at h
theorem Cs(a:0<v1)(hc:0<c)(d:q*v1+r=T)(f:hq c v1 v0 T u1<=q)(e:q*v0<=c*r+u1):q=hq c v1 v0 T u1:=by
 have b:0<v1*c+v0:=by have:=fl a hc;omega
 have h:q*(v1*c+v0)<=T*c+u1:=(BT d).2 (by rw[cc r];exact e);have:q<=hq c v1 v0 T u1:=by rw[hq,dp b];exact h
 omega
theorem NH(b:0<v1)(hc:0<c)(f:q*v1+r=T)(i:hq c v1 v0 T u1<=q)(a:c<=q/\hq c v1 v0 T u1<c\/c*r+u1<q*v0):hq c v1 v0 T u1<=q-1:=by
 rcases a with⟨a,g⟩|a
 ·omega
 ·have d:0<v1*c+v0:=by have:=fl b hc;omega
  have h:¬q*(v1*c+v0)<=T*c+u1:=fun e=>by
   have:=(BT f).1 e;rw[cc r]at this;omega
  have:hq c v1 v0 T u1<q:=by rw[hq,ce d];omega
  omega
theorem Wq(a:T<v1*c+v0)(e:v0<c)(b:q*v1+r=T)(d:c<=r):q<c:=by
 rcases fb q c with h|h
 ·exact h
 ·have:c*v1<=q*v1:=c6 _ h;rw[cc c]at this;omega
theorem Kp(b:0<v1)(d:T<v1*c+v0)(g:v0<c)(a:q*v1+r=T)(f:c<=r)(e:hq c v1 v0 T u1<=q):q=hq c v1 v0 T u1:=by
 have j:=Wq d g a f;refine Cs b (by omega) a e ?_;have h:q*v0<=c*v0:=c6 _ (by omega);have i:c*v0<=c*r:=dq _ (by omega);omega
theorem O5(a:0<v1)(b:T<v1*c+v0)(d:c<=2*v1)(e:v0<c):T/v1<=c+1:=by
 have:T/v1<c+2:=by
  rw[ce a,ea,cc c];omega
 omega
theorem Lw:T*c+u1-hq c v1 v0 T u1*(v1*c+v0)=(T*c+u1)% (v1*c+v0):=by
 rw[hq];generalize T*c+u1=A;generalize v1*c+v0=V;have:=dk A V;rw[cc (A/V)];omega
theorem Z8{Y U c:Nat}(hY:0<Y):U/Y=U/c/Y*c+((U/c% Y)*c+U% c)/Y/\U% Y=((U/c% Y)*c+U% c)% Y:=by
 have e:U=(U/c% Y*c+U% c)+(U/c/Y*c)*Y:=by
  have a:=dk U c;have b:=dk (U/c) Y;have d:(Y*(U/c/Y)+U/c% Y)*c=U/c*c:=by rw[b]
  rw[ea,cc Y,ge]at d;rw[cc c]at a;omega
 constructor
 ·conv=>lhs;rw[e]
  rw[ed _ _ hY,e6]
 ·conv=>lhs;rw[e]
  rw[en]
end
section
variable{B W V n q r:Nat}
theorem aIQ(b:2<=B)(c:2<=n)(a:V<B^n):V/B^(n-2)=ae B V (n-1)*B+ae B V (n-2):=by
 obtain⟨k,rfl⟩:∃k,n=k+2:=⟨n-2,by omega⟩
 have e1:k+2-2=k:=by omega
 have e2:k+2-1=k+1:=by omega
 rw[e1,e2,rY];have:V/B^(k+1)=ae B V (k+1):=by
  rw[ae,cv];rw[ce (cy (by omega)),cc,<-cx];exact a
 rw[this]
theorem aIN(c:2<=B)(d:2<=n)(a:B^(n-1)<=V)(b:V<B^n):V/B^(n-1)=ae B V (n-1)/\0<ae B V (n-1):=by
 obtain⟨k,rfl⟩:∃k,n=k+1:=⟨n-1,by omega⟩
 have e2:k+1-1=k:=by omega
 rw[e2]at*;have:V/B^k=ae B V k:=by
  rw[ae,cv];rw[ce (cy (by omega)),cc,<-cx];exact b
 exact⟨this,by rw[<-this];exact Nat.div_pos a (cy (by omega))⟩
theorem BS(b:2<=B)(c:2<=n)(a:B^(n-1)<=V):0<V:=eb (cy (by omega)) a
theorem LA(c:2<=B)(f:2<=n)(d:B^(n-1)<=V)(e:V<B^n):W/V<=W/B^(n-1)/ae B V (n-1):=by
 obtain⟨a,b⟩:=aIN c f d e;rw[<-a];exact HY (by rw[a];exact b)
theorem NJ(a:2<=B)(c:2<=n)(b:V<B^n)(d:q*ae B V (n-1)+r=W/B^(n-1)):
 q*(V/B^(n-2))<=W/B^(n-2)↔q*ae B V (n-2)<=r*B+ae B W (n-2):=by
 rw[aIQ a c b,rY,show n-2+1=n-1 by omega];exact BT d
theorem DE(b:2<=B)(c:2<=n)(a:B^(n-1)<=V)(d:V<B^n)(g:q*ae B V (n-1)+r=W/B^(n-1))(hq:q<B)(h:q*ae B V (n-2)<=r*B+ae B W (n-2)):q<=W/V+1:=by
 have f:0<B^(n-2):=cy (by omega);refine Us f ?_ (BS b c a) ((NJ b c d g).2 h);have e:n-1=n-2+1:=by omega
 rw[e,cx,cc]at a;exact Nat.le_trans (c6 _ (by omega)) a
theorem NK(a:2<=B)(b:2<=n)(c:B^(n-1)<=V)(d:V<B^n)(f:q*ae B V (n-1)+r=W/B^(n-1))(g:r*B+ae B W (n-2)<q*ae B V (n-2)):W/V<q:=by
 have e:0<B^(n-2):=cy (by omega);refine VS e (BS a b c) ?_;rcases fb (W/B^(n-2)) (q*(V/B^(n-2)))with h|h
 ·exact h
 ·have:=(NJ a b d f).1 h;omega
theorem Lz(a:2<=B)(b:B<=r)(hq:q<B):q*ae B V (n-2)<=r*B+ae B W (n-2):=by
 have e:ae B V (n-2)<B:=cr a _ _;have c:q*ae B V (n-2)<=B*B:=g0 (by omega) (by omega);have d:B*B<=r*B:=c6 _ b;omega
theorem Ct(e:2<=B)(f:1<=n)(c:V<B^n)(a:W<V*B):W/B^n<=ae B V (n-1)/\W/V<B:=by
 obtain⟨k,rfl⟩:∃k,n=k+1:=⟨n-1,by omega⟩
 have e2:k+1-1=k:=by omega
 rw[e2];have hk:0<B^k:=cy (by omega);have b:V/B^k=ae B V k:=by
  rw[ae,cv];rw[ce hk,cc,<-cx];exact c
 refine⟨?_,?_⟩
 ·rw[<-b,cx,cc,<-ck];refine e9 ?_;have:W/B<V:=by rw[ce (by omega)];exact a
  omega
 ·have d:0<V:=by
   rcases em V with h|h
   ·subst h;simp at a
   ·exact h
  rw[ce d,cc];exact a
def iE(B V q i:Nat):Nat:=q*(V% B^i)/B^i
theorem Vt:iE B V q 0=0:=by simp[iE,ew]
theorem W0(b:2<=B)(i:Nat):(q*ae B V i+iE B V q i)% B=ae B (q*V) i/\(q*ae B V i+iE B V q i)/B=iE B V q (i+1):=by
 have a:0<B^i:=cy (by omega);have e:q*(V% B^(i+1))/B^i=q*ae B V i+iE B V q i:=by
  rw[mod_pow_succ,dz,gj,da _ _ a,iE,e6]
 rw[<-e];constructor
 ·have e2:q*V=q*(V% B^(i+1))+q*(V/B^(i+1))*B^(i+1):=by
   have:=dg V (B^(i+1))
   conv=>lhs;rw[<-this]
   rw[dz,cc (B^(i+1)),db]
  conv=>rhs;rw[e2,xe (by omega)]
  rfl
 ·rw[iE,wX]
theorem aIf(b:2<=B)(hq:q<B)(i:Nat):iE B V q i<B:=by
 have a:0<B^i:=cy (by omega);rw[iE,ce a];exact ee hq (dl _ a)
theorem W2(c:2<=B)(hq:q<B)(a:V<B^n):iE B V q n=ae B (q*V) n:=by
 have b:0<B^n:=cy (by omega);rw[iE,cv a,ae];refine(cv ?_).symm;rw[ce b];exact ee hq a
theorem Ub(hq:q<B)(a:V<B^n):q*V<B^(n+1):=by
 rw[cx,cc (B^n)];exact ee hq a
theorem uN{m i:Nat}(hi:i<m):ae B (W+B^m) i=ae B W i:=by
 have:=xe (B:=B) (n:=W) (c:=1) hi
 rwa [fd]at this
theorem TM(b:W<B^(n+1))(a:q*V<B^(n+1)):eU B (W+B^(n+1)) (q*V) (n+1)=if W<q*V then 1 else 0:=by
 rw[eU,gm,cv b,cv a]
theorem aH8(h:q*V<=W)(b:q<=W/V+1)(a:0<V)(c:W/V<=q):q=W/V/\W-q*V=W% V:=by
 have e:q=W/V:=by
  have:=(dp a).2 h;omega
 refine⟨e,?_⟩;have:=dk W V;rw[e,cc];omega
theorem W6(h:W<q*V)(b:q<=W/V+1)(a:0<V)(c:W/V<=q):q=W/V+1/\∀M,q*V<=W+M->W+M-q*V+V=W% V+M:=by
 have e:q=W/V+1:=by
  have:¬q<=W/V:=fun e=>by
   have:=(dp a).1 e;omega
  omega
 refine⟨e,fun M d=>?_⟩;have:=dk W V;have e2:q*V=V*(W/V)+V:=by rw[e,ea,fd,cc]
 omega
end
section
variable{S T:Nat}
theorem GM{x0 x1:Nat}(h:x0<S)(c:0<T):(x0+S*x1)% (S*T)=x0+S*(x1% T):=by
 have d:0<S:=by omega
 have e:x1=x1% T+T*(x1/T):=(dg x1 T).symm
 conv=>lhs;rw[e,dz,<-db,<-Nat.add_assoc,eo]
 refine cv ?_;have a:x1% T+1<=T:=dl _ c;have b:S*(x1% T+1)<=S*T:=dq _ a;rw[dz,Nat.mul_one]at b;omega
theorem V0(w:Nat):ae (S*T) (w*S) 0=(ae (S*T) w 0*S)% (S*T):=by
 simp only[ae,g5,gc];rw[Nat.mod_mul_mod]
theorem V1(b:0<S)(a:0<T)(w i:Nat):ae (S*T) (w*S) (i+1)=(ae (S*T) w (i+1)*S)% (S*T)+ae (S*T) w i/T:=by
 have d:0<S*T:=fl b a;have e0:w*S/(S*T)^(i+1)=w/(S*T)^i/T:=by
  rw[cx,cc S T,<-db,Nat.mul_div_mul_right _ _ b,ck]
 have e1:w/(S*T)^(i+1)=w/(S*T)^i/(S*T):=by rw[cx,ck]
 simp only[ae];rw[e0,e1];generalize w/(S*T)^i=x;have e2:x/T=x% (S*T)/T+S*(x/(S*T)):=by
  conv=>lhs;rw[<-dg x (S*T)]
  rw[show S*T*(x/(S*T))=T*(S*(x/(S*T)))by rw[cc S T,db],da _ _ a]
 have c:x% (S*T)/T<S:=by rw[ce a];exact dl _ d
 rw[e2,GM c a];have e3:x/(S*T)% (S*T)*S% (S*T)=S*(x/(S*T)% T):=by
  rw[cc _ S,fv,cc S T,e8]
 rw[e3,e6]
theorem aIs(a:0<S)(e:0<T)(R i:Nat):ae (S*T) (R/S) i=ae (S*T) R i/S+(ae (S*T) R (i+1)*T)% (S*T):=by
 have d:0<S*T:=fl a e;have e0:R/S/(S*T)^i=R/(S*T)^i/S:=by rw[ck,cc,ck]
 have e1:R/(S*T)^(i+1)=R/(S*T)^i/(S*T):=by rw[cx,ck]
 simp only[ae];rw[e0,e1];generalize R/(S*T)^i=x;have e2:x/S=x% (S*T)/S+T*(x/(S*T)):=by
  conv=>lhs;rw[<-dg x (S*T)]
  rw[db,da _ _ a]
 have c:x% (S*T)/S<T:=by rw[ce a,cc T];exact dl _ d
 have b:=GM (S:=T) (T:=S) (x0:=x% (S*T)/S) (x1:=x/(S*T)) c a;rw[cc T S]at b;rw[e2,b];have e3:x/(S*T)% (S*T)*T% (S*T)=T*(x/(S*T)% S):=by
  rw[cc _ T,cc S T,fv,cc T S,e8]
 rw[e3]
end
theorem CZ{a b s:Nat}(c:b<2^s):a*2^s|||b=a*2^s+b:=by
 have:=Nat.shiftLeft_add_eq_or_of_lt c a;rw[Nat.shiftLeft_eq]at this;exact this.symm
def eW(l:List Nat):List PV:=l.map fun x:Nat=>.int .u64 x
theorem Qq(w:List Nat):eM prog 1 (w.map (AV.p∘fun x:Nat=>PV.int .u64 x)):=by
 rw[uu];intro v a;obtain⟨x,_,rfl⟩:=bi.1 a;simp[aa,aL,bD]
theorem A4:∀l:List Nat,eg (l++[0])=eg l
 |[]=>by simp[eg]
 |d::l=>by rw[b4,eg,A4 l,eg]
theorem uo:∀(l:List Nat)(d:Nat),d≠0->eg (l++[d])=l++[d]
 |[],d,h=>by simp[eg,h]
 |x::l,d,h=>by
  rw[b4,eg,uo l d h]
  split
  ·rename_i e;simp at e
  ·rfl
theorem sS(w:List Nat)(h:w.length<=1048576):au prog 313 [.seq (eW w)] (.seq (eW (eg w))):=by
 refine aI nf Mq mix (by simp[f313]) ?_;simp only[eW];simp[f313];refine lp (α:=Nat) (fun i=>⟨[(3,.p (.int .i64 i)),(0,.p (.seq (w.map fun x:Nat=>.int .u64 x)))],[]⟩) (fun i=>i<=w.length/\eg w=eg (w.take i)) (fun i=>i) w.length (by simp) ?_;rintro i ⟨k1,k2⟩
 by_cases hi:0<i
 ·obtain⟨j,rfl⟩:∃j,i=j+1:=⟨i-1,by omega⟩
  have d:a2.wrap (j:Int)=j:=aP _ (by omega) (by omega);have a:j<w.length:=by omega
  have c:(0:Int)<(j:Int)+1:=by omega
  have k3:=k2;rw[be a]at k2
  by_cases b:w[j]=0
  ·rw[b,A4]at k2;have e:((w[j]:Nat):Int)=0:=by omega
   simp[c,d,a,b];exact rd j ⟨by omega,k2⟩
  ·rw[uo _ _ b,<-be a]at k2;simp[c,d,a,b];refine⟨⟨by omega,by omega,Qq w⟩,?_⟩;rw[k2,List.map_take];exact bC.refl _
 ·obtain rfl:i=0:=by omega
  simp[eg]at k2;simp[k2];exact Qq w
def eN(n:Nat):PV:=.seq ((aw wB n).map fun x:Nat=>.int .u64 x)
theorem bn:2<=wB:=by decide
def fH(a b:Nat):Int:=if a<b then -1 else if b<a then 1 else 0
theorem Ht{a b:Nat}(h:(aw wB a).length<(aw wB b).length):a<b:=by
 have d:=ch bn a;rcases fb a b with c|c
 ·exact c
 ·have:=dJ bn (aw wB a).length b (ec c d);omega
theorem I9{a b i:Nat}(h:a/wB^(i+1)=b/wB^(i+1))(e:ae wB a i<ae wB b i):a<b:=by
 rw[cx,<-ck,<-ck]at h;have e1:=dk (a/wB^i) wB;have e2:=dk (b/wB^i) wB;rw[ae,ae]at e;rw[h]at e1;rcases fb a b with d|d
 ·exact d
 ·have:=e9 (c:=wB^i) d;omega
theorem XF{a b i:Nat}(h:a/wB^(i+1)=b/wB^(i+1))(c:ae wB a i=ae wB b i):a/wB^i=b/wB^i:=by
 rw[cx,<-ck,<-ck]at h;have e1:=dk (a/wB^i) wB;have e2:=dk (b/wB^i) wB;rw[ae,ae]at c;rw[h]at e1;omega
theorem Gx(a b:Nat)(z:(aw wB a).length<=1048576)(A:(aw wB b).length<=1048576):au prog 321 [eN a,eN b] (.int .i64 (fH a b)):=by
 refine aI nf Nf mix (by simp[f321]) ?_
 by_cases g:(aw wB a).length=(aw wB b).length
 case neg=>
  have n:¬((aw wB a).length:Int)=(aw wB b).length:=by omega
  by_cases u:(aw wB a).length<(aw wB b).length
  ·have k:((aw wB a).length:Int)<(aw wB b).length:=by omega
   have:=Ht u;have hc:fH a b= -1:=if_pos this;simp[f321,eN,n,k,hc]
  ·have k:¬((aw wB a).length:Int)<(aw wB b).length:=by omega
   have:=Ht (a:=b) (b:=a) (by omega);have hc:fH a b=1:=by rw[fH,if_neg (by omega),if_pos this]
   simp[f321,eN,n,k,hc]
 have r:∀i(h:i<(aw wB a).length),(aw wB a)[i]=ae wB a i:=fun i h=>ey bn h;have s:∀i(h:i<(aw wB b).length),(aw wB b)[i]=ae wB b i:=fun i h=>ey bn h;have q:=ch bn a;have m:=ch bn b;rw[<-g]at m;have t:a/wB^(aw wB a).length=b/wB^(aw wB a).length:=by rw[c9 q,c9 m]
 have B:a=b\/a≠b:=by omega
 simp only[eN];generalize aw wB a=x at*;generalize aw wB b=y at*;have w:a2.wrap ((y.length:Int)-1)=y.length-1:=aP _ (by omega) (by omega);simp[f321,g,w];refine lp (α:=Nat) (fun i=>⟨[(5,.p (.int .i64 ((i:Int)-1))),(1,.p (.seq (y.map fun x:Nat=>.int .u64 x))),(0,.p (.seq (x.map fun x:Nat=>.int .u64 x)))],[]⟩) (fun i=>i<=y.length/\a/wB^i=b/wB^i) (fun i=>i) y.length ⟨gb _,by rw[<-g];exact t⟩ ?_;rintro i ⟨k1,k2⟩
 by_cases hi:0<i
 ·obtain⟨j,rfl⟩:∃j,i=j+1:=⟨i-1,by omega⟩
  have c:j<x.length:=by omega
  have d:j<y.length:=by omega
  have v:a2.wrap ((j:Int)-1)=j-1:=aP _ (by omega) (by omega);have e:=r j c;have f:=s j d
  by_cases hq:ae wB a j=ae wB b j
  ·simp[c,d,e,f,hq,v];exact rd j ⟨by omega,XF k2 hq⟩
  ·have o:¬(ae wB a j:Int)=ae wB b j:=by omega
   by_cases l:ae wB a j<ae wB b j
   ·have:=I9 k2 l;have hc:fH a b= -1:=if_pos this;simp[c,d,e,f,o,l,hc]
   ·have:=I9 k2.symm (show ae wB b j<ae wB a j by omega);have hc:fH a b=1:=by rw[fH,if_neg (by omega),if_pos this]
    simp[c,d,e,f,o,l,hc]
 ·obtain rfl:i=0:=by omega
  rw[g5,gc,gc]at k2;have hc:fH a b=0:=by rw[fH,if_neg (by omega),if_neg (by omega)]
  simp[hc]
@[simp] theorem IY{α:Type}{f:α->PV}:∀{l:List α},eE (l.map (AV.p∘f))=some (l.map f)
 |[]=>rfl
 |x::l=>by simp only[bl,Function.comp,eE];rw[show(l.map (AV.p∘f))=l.map (fun x=>AV.p (f x))from rfl]at*;have:=@IY α f l;rw[show(l.map (AV.p∘f))=l.map (fun x=>AV.p (f x))from rfl]at this;simp[this]
def uA(x:Nat):AV:=.p (.int .u64 x)
def gB(n i:Nat)(f:Nat->Nat):List AV:=(a7 n).map fun j=>uA (if j<i then f j else 0)
theorem CE(n i:Nat)(f:Nat->Nat):(gB n i f).length=n:=by simp[gB]
theorem Kb(n:Nat)(f:Nat->Nat):cb n (AV.p (.int .u64 0))=gB n 0 f:=by
 apply a8 (by simp[gB]);intro i a b;simp[gB,uA]
theorem CD{n i:Nat}(f:Nat->Nat)(h:i<n):(gB n i f).set i (.p (.int .u64 (f i)))=gB n (i+1) f:=by
 apply a8 (by simp[gB]);intro j h1 c;simp only[gB,b5,bV]at c;rw[b2];simp only[gB,b3,bI,uA]
 by_cases a:i=j
 ·subst a;rw[if_pos rfl,if_pos (by omega)]
 ·rw[if_neg a]
  by_cases b:j<i
  ·rw[if_pos b,if_pos (by omega)]
  ·rw[if_neg b,if_neg (by omega)]
theorem Kc(n:Nat)(f:Nat->Nat):gB n n f=((a7 n).map f).map (AV.p∘fun x:Nat=>PV.int .u64 x):=by
 rw[gB,bo];apply bp;intro j a;rw[if_pos (List.mem_range.1 a)];rfl
@[simp] theorem aL4{N:Nat×Nat->Prop}{n i:Nat}{f:Nat->Nat}:aX N (gB n i f)=True:=by
 rw[cV,eq_iff_iff,iff_true];intro v a;simp only[gB,bi]at a;obtain⟨x,_,rfl⟩:=a;trivial
theorem uP{n i j:Nat}(f:Nat->Nat)(h:j<n):(gB n i f)[j]?=some (uA (if j<i then f j else 0)):=by
 rw[gB,b0,bv h];rfl
theorem T6{A C n:Nat}(a:A<wB^n)(b:C<wB^n):de wB A C n=ae wB (A+C) n:=by
 have c:0<wB^n:=cy (by decide);have:=lG bn A C n;rw[de,cv a,cv b]at*;rw[ae,cv];exact ec this (by decide)
theorem Cy{n i:Nat}(h:(aw wB n).length<=i):ae wB n i=0:=jn (eb (ch bn n) (ei (by decide) h))
theorem Ua(a b:Nat)(E:(aw wB a).length<=1000000)(F:(aw wB b).length<=1000000):au prog 320 [eN a,eN b] (eN (a+b)):=by
 refine aI nf Ml mix (by simp[f320]) ?_;simp[f320,-bt];rw[bt];simp[-bt];refine join (fun s=>∃A C,A+C=a+b/\(aw wB C).length<=(aw wB A).length/\(aw wB A).length<=1000000/\aQ s.env 0=.p (eN A)/\aQ s.env 1=.p (eN C)/\s.heap=[]) ?_ ?_
 ·by_cases T:(aw wB a).length<(aw wB b).length
  ·have j:((aw wB a).length:Int)<(aw wB b).length:=by omega
   simp[eN,j];exact⟨b,a,by omega,by omega,F,rfl,rfl⟩
  ·have j:¬((aw wB a).length:Int)<(aw wB b).length:=by omega
   simp[eN,j];exact⟨a,b,rfl,by omega,E,rfl,rfl⟩
 rintro⟨Q,S⟩ ⟨A,C,hs,K,U,f0,f1,B⟩;dsimp only at f0 f1 B;subst B;rw[<-hs];simp only[eN]at f0 f1⊢;have G:∀i(h:i<(aw wB A).length),(aw wB A)[i]=ae wB A i:=fun i h=>ey bn h;have H:∀i(h:i<(aw wB C).length),(aw wB C)[i]=ae wB C i:=fun i h=>ey bn h;have I:=ch bn A;have J:=eb (ch bn C) (ei (show 0<wB by decide) K);have t:=T6 I J;have L:=@Cy C;have M:eg ((a7 ((aw wB A).length+1)).map (ae wB (A+C)))=aw wB (A+C):=jo bn (by
  have R:2*wB^(aw wB A).length<=wB^((aw wB A).length+1):=by rw[cx,cc];exact dq _ bn
  omega)
 have d:=sS ((a7 ((aw wB A).length+1)).map (ae wB (A+C))) (by simp;omega);rw[M]at d;generalize aw wB (A+C)=z at*;generalize aw wB A=x at*;generalize aw wB C=y at*;obtain⟨n,c⟩:∃n,x.length=n:=⟨_,rfl⟩
 obtain⟨m,o⟩:∃m,y.length=m:=⟨_,rfl⟩
 rw[c]at t d;have u:=Kc (n+1) (ae wB (A+C));have k:((a7 (n+1)).map (ae wB (A+C))).length=n+1:=by simp
 generalize (a7 (n+1)).map (ae wB (A+C))=l at d u k;have V:n<=1000000:=by omega
 have W:m<=n:=by omega
 have N:a2.wrap ((n:Int)+1)=n+1:=b9 (by omega);simp[f0,f1,c,N];refine⟨⟨by omega,by simp only[cW];omega⟩,?_⟩;rw[Kb (n+1) (ae wB (A+C))];refine lp (α:=Nat) (fun i=>⟨[(22,.p (.int .i64 i)),(21,.p (.int .i64 n)),(6,.p (.int .u64 (de wB A C i:Nat))),(5,.sl 0 0 1 0 (n+1)),(1,.p (.seq (y.map fun x:Nat=>.int .u64 x))),(0,.p (.seq (x.map fun x:Nat=>.int .u64 x)))],[.arr .exact 0 1 (gB (n+1) i (ae wB (A+C)))]⟩)
  (fun i=>i<=n) (fun i=>n-i) 0 (by simp) ?_ (he:=by simp[f0,f1,xl])
 intro i k1;have D:=b9 (i:=i) (by omega)
 by_cases hi:i<n
 ·have g:i<x.length:=by rw[c];exact hi
  have hx:=G i g;have e:=qD (ae wB A i) (ae wB C i) (de wB A C i) (lG bn A C i);obtain⟨g1,g2⟩:=p0 bn A C i;rw[g1,g2]at e;have aN:=CD (n:=n+1) (ae wB (A+C)) (show i<n+1 by omega);have al:i<(gB (n+1) i (ae wB (A+C))).length:=by rw[CE];omega
  have w:(gB (n+1) i (ae wB (A+C))).length=n+1:=CE _ _ _;have X:gB (n+1) i (ae wB (A+C))≠[]:=by intro h;rw[h]at w;simp at w
  have f:i<n+1:=by omega
  by_cases q:i<m
  ·have v:i<y.length:=by rw[o];exact q
   have O:=H i v;have r:(i:Int)<m:=by omega
   simp[c,o,hi,q,r,hx,O,g,v];refine c3 e ?_;simp[f,aN,D,uP _ f,aa,aL,bD,uA];exact rd (i+1) (show i+1<=n by omega)
  ·have r:¬(i:Int)<m:=by omega
   have P:=L (i:=i) (by omega);rw[P]at e;simp[c,o,hi,q,r,hx,g];refine c3 e ?_;simp[f,aN,D,uP _ f,aa,aL,bD,uA];exact rd (i+1) (show i+1<=n by omega)
 have:i=n:=by omega
 subst this;simp[c,t,uP _ (gt i),CD _ (gt i),u,aa,aL,bD,uA];refine cp d (by simp[k];exact⟨rfl,rfl⟩) ?_ (h1:=by simp[eW,bb,k]);simp;exact bC.refl _
end Go.ak
namespace Go.ak
open Go.Proofs
theorem VV{x y c d:Nat}(h:x+wB=d+(y+c))(a:d<wB):(x+wB-y-c)% wB=d:=by rw[show x+wB-y-c=d by omega];exact cv a
theorem Wh{x y c d:Nat}(h:x=d+(y+c))(a:d<wB):(x+wB-y-c)% wB=d:=by rw[show x+wB-y-c=d+wB by omega,gm];exact cv a
theorem Nl{A C:Nat}(h:C<=A)(i:Nat):au prog 350 [.int .u64 (ae wB A i),.int .u64 (ae wB C i),.int .u64 (eU wB A C i)] (.aC [.int .u64 (ae wB (A-C) i),.int .u64 (eU wB A C (i+1))]):=by
 have c:eU wB A C i<=1:=by rw[eU];split<;>omega
 have a:=YH (ae wB A i) (ae wB C i) (eU wB A C i) c;have b:=cr bn (A-C) i;have e:=cr bn A i;have f:=cr bn C i;have d:wB=18446744073709551616:=rfl;rcases Jt bn h i with⟨e1,e2,e3⟩|⟨e1,e2,e3⟩
 ·rw[if_pos e1,VV e3 b]at a;rw[e2];exact a
 ·rw[if_neg (by omega),Wh e3 b]at a;rw[e2];exact a
theorem HE(A C:Nat)(k:C<=A)(D:(aw wB A).length<=1000000):au prog 322 [eN A,eN C] (eN (A-C)):=by
 refine aI nf Nd mix (by simp[f322]) ?_;have F:(aw wB C).length<=(aw wB A).length:=dJ bn _ _ (ec k (ch bn A));have s:∀i(h:i<(aw wB A).length),(aw wB A)[i]=ae wB A i:=fun i h=>ey bn h;have t:∀i(h:i<(aw wB C).length),(aw wB C)[i]=ae wB C i:=fun i h=>ey bn h;have u:=@Cy C;have v:eg ((a7 (aw wB A).length).map (ae wB (A-C)))=aw wB (A-C):=jo bn (ec (Nat.sub_le A C) (ch bn A));have b:=sS ((a7 (aw wB A).length).map (ae wB (A-C))) (by simp;omega);rw[v]at b;simp only[eN];generalize aw wB (A-C)=z at*;generalize aw wB A=x at*;generalize aw wB C=y at*;obtain⟨n,a⟩:∃n,x.length=n:=⟨_,rfl⟩
 obtain⟨m,f⟩:∃m,y.length=m:=⟨_,rfl⟩
 rw[a]at b;have o:=Kc n (ae wB (A-C));have e:((a7 n).map (ae wB (A-C))).length=n:=by simp
 generalize (a7 n).map (ae wB (A-C))=l at b o e;have E:n<=1000000:=by omega
 have H:m<=n:=by omega
 simp[f322,a];refine⟨by simp only[cW];omega,?_⟩;rw[Kb n (ae wB (A-C))];refine lp (α:=Nat) (fun i=>⟨[(14,.p (.int .i64 i)),(13,.p (.int .i64 n)),(6,.p (.int .u64 (eU wB A C i:Nat))),(5,.sl 0 0 1 0 n),(1,.p (.seq (y.map fun x:Nat=>.int .u64 x))),(0,.p (.seq (x.map fun x:Nat=>.int .u64 x)))],[.arr .exact 0 1 (gB n i (ae wB (A-C)))]⟩)
  (fun i=>i<=n) (fun i=>n-i) 0 (by simp) ?_ (he:=by simp[A2])
 intro i k1;have r:=b9 (i:=i) (by omega)
 by_cases hi:i<n
 ·have d:i<x.length:=by rw[a];exact hi
  have hx:=s i d;have c:=Nl k i;have aN:=CD (n:=n) (ae wB (A-C)) hi;have G:(gB n i (ae wB (A-C))).length=n:=CE _ _ _
  by_cases g:i<m
  ·have q:i<y.length:=by rw[f];exact g
   have w:=t i q;have j:(i:Int)<m:=by omega
   simp[a,f,hi,g,j,hx,w,d,q];refine c3 c ?_;simp[hi,aN,r,uP _ hi,aa,aL,bD,uA];exact rd (i+1) (show i+1<=n by omega)
  ·have j:¬(i:Int)<m:=by omega
   have B:=u (i:=i) (by omega);rw[B]at c;simp[a,f,hi,g,j,hx,d];refine c3 c ?_;simp[hi,aN,r,uP _ hi,aa,aL,bD,uA];exact rd (i+1) (show i+1<=n by omega)
 have:i=n:=by omega
 subst this;simp[a,o,aa,aL,bD,uA];refine cp b (by simp[e];exact⟨rfl,rfl⟩) ?_ (h1:=by simp[eW,bb,e]);simp;exact bC.refl _
end Go.ak
namespace Go.Proofs
open Go.Shelf
def Tryz.TI:Go.Shelf.Ren:=⟨fun|134=>335|129=>323|n=>n,fun|53=>309|3=>3|4=>4|46=>369|5=>5|9=>9|n=>n,fun|n=>n⟩
theorem Tryz.aG2:Go.Proofs.Lays.n134 prog TI:={
 mixed:=by kernel_rfl
 f129:=func323.trans (congrArg some (by kernel_rfl))
 f134:=func335.trans (congrArg some (by kernel_rfl))
 t3:=underlying3
 a3:=isAgg3
 z3:=sizeOf3
 v3:=zeroValue3
 t4:=underlying4
 a4:=isAgg4
 z4:=sizeOf4
 v4:=zeroValue4
 t5:=underlying5
 a5:=isAgg5
 z5:=sizeOf5
 v5:=zeroValue5
 t9:=underlying9
 a9:=isAgg9
 z9:=sizeOf9
 v9:=zeroValue9
 t46:=underlying369
 a46:=isAgg369
 z46:=sizeOf369
 v46:=zeroValue369
 t53:=underlying309
 a53:=isAgg309
 z53:=sizeOf309
 v53:=zeroValue309}
theorem Tryz.bits_LeadingZeros64(x:Int)(w:am)(a:0<=x)(b:x<=18446744073709551615):
 a1 prog 335 #[.int .u64 x] w fun e w'=>e=.returned (.int .i64 (64-(Lib.bitLen x.toNat:Int)))/\w'=w:=Any.bits_LeadingZeros64 aG2 x w a b
def Tryz.TJ:Go.Shelf.Ren:=⟨fun|129=>323|n=>n,fun|53=>309|3=>3|4=>4|46=>369|5=>5|9=>9|n=>n,fun|n=>n⟩
theorem Tryz.aG1:Go.Proofs.Lays.n129 prog TJ:={
 mixed:=by kernel_rfl
 f129:=func323.trans (congrArg some (by kernel_rfl))
 t3:=underlying3
 a3:=isAgg3
 z3:=sizeOf3
 v3:=zeroValue3
 t4:=underlying4
 a4:=isAgg4
 z4:=sizeOf4
 v4:=zeroValue4
 t5:=underlying5
 a5:=isAgg5
 z5:=sizeOf5
 v5:=zeroValue5
 t9:=underlying9
 a9:=isAgg9
 z9:=sizeOf9
 v9:=zeroValue9
 t46:=underlying369
 a46:=isAgg369
 z46:=sizeOf369
 v46:=zeroValue369
 t53:=underlying309
 a53:=isAgg309
 z53:=sizeOf309
 v53:=zeroValue309}
theorem Tryz.bits_Len64(x:Int)(w:am)(a:0<=x)(b:x<=18446744073709551615):
 a1 prog 323 #[.int .u64 x] w fun e w'=>e=.returned (.int .i64 (Lib.bitLen x.toNat))/\w'=w:=Any.bits_Len64 aG1 x w a b
def Tryz.TG:Go.Shelf.Ren:=⟨fun|264=>252|n=>n,fun|53=>309|46=>369|n=>n,fun|n=>n⟩
theorem Tryz.aG4:Go.Proofs.Lays.n264 prog TG:={
 mixed:=by kernel_rfl
 f264:=func252.trans (congrArg some (by kernel_rfl))
 t46:=underlying369
 a46:=isAgg369
 z46:=sizeOf369
 v46:=zeroValue369
 t53:=underlying309
 a53:=isAgg309
 z53:=sizeOf309
 v53:=zeroValue309}
open Go.RowKit Go.Lib in
theorem Tryz.bits_Mul64(x y:Nat)(hx:x<18446744073709551616)(hy:y<18446744073709551616)(w:am):
 a1 prog 252 #[.int .u64 x,.int .u64 y] w fun e w'=>e=.returned (.tuple #[.int .u64 ((x*y/18446744073709551616:Nat):Int),.int .u64 ((x*y% 18446744073709551616:Nat):Int)])/\w'=w:=Any.bits_Mul64 aG4 x y hx hy w
end Go.Proofs
namespace Go.ak
open Go.Proofs
section
variable[Gl]{P:ap}
theorem jY{f:ao}{fn:Func}(h:P.funcs[f]?=some fn)(hs:(fn.body.isSome&&(fn.name != "runtime.NumGoroutine"))=true):Enters P f:=by
 intro args w;simp only[Bool.and_eq_true,bne_iff_ne]at hs;cases a:fn.body with
 |none=>rw[a]at hs;simp at hs
 |some c=>simp[callFunc,h,hs.2,a]
theorem lD{f:ao}{args:List PV}{v:PV}(l:Enters P f)
 (h:∀(w:am)(ad:Nat->Prop)(a:List av),(∀k,ad k->k<w.heap.size)->mB P w ad->bJ P w ad args a->
  a1 P f a.toArray w fun e w'=>∃b,e=.returned b/\(w.heap.size<=w'.heap.size/\(∀k,k<w.heap.size->w'.heap[k]?=w.heap[k]?)/\w'.os=w.os/\w'.output=w.output)/\∀(w:am)(ad:Nat->Prop),aD P w ad v b):au P f args v:=by
 refine .inl ⟨l,fun w ad a d m j=>(h w ad a d m j).mono ?_⟩;rintro e w' ⟨b,rfl,⟨c,g,n⟩,i⟩;exact⟨b,ad,rfl,fun _ x=>x,fun _ x=>.inl x,fun k hk=>eb (d k hk) c,c,g,n,i _ _⟩
theorem qd{w:am}{ad:Nat->Prop}{a b:PV}{cs:List av}(h:bJ P w ad [a,b] cs):∃x y,cs=[x,y]/\aD P w ad a x/\aD P w ad b y:=by
 simp only[bJ]at h;obtain⟨x,xs,rfl,c,y,e,rfl,d,rfl⟩:=h;exact⟨x,y,rfl,c,d⟩
theorem ya{w:am}{ad:Nat->Prop}{a:PV}{cs:List av}(h:bJ P w ad [a] cs):∃x,cs=[x]/\aD P w ad a x:=by
 simp only[bJ]at h;obtain⟨x,xs,rfl,b,rfl⟩:=h;exact⟨x,rfl,b⟩
end
theorem yn(x y:Nat)(hx:x<18446744073709551616)(g:y<18446744073709551616):au prog 252 [.int .u64 x,.int .u64 y] (.aC [.int .u64 ((x*y/18446744073709551616:Nat):Int),.int .u64 ((x*y% 18446744073709551616:Nat):Int)]):=by
 refine lD (jY func252 (by kernel_rfl)) fun w ad h _ _ f=>?_;obtain⟨a,b,rfl,c,d⟩:=qd f;simp only[aD]at c d;subst c d;refine(bits_Mul64 x y hx g w).mono ?_;rintro e w' ⟨rfl,rfl⟩;refine⟨_,rfl,⟨gb _,fun _ _=>rfl,rfl,rfl⟩,fun w ad=>?_⟩;simp only[aD,bJ];exact⟨[_,_],⟨_,_,rfl,rfl,_,_,rfl,rfl,rfl⟩,rfl⟩
theorem Np(x:Nat)(hx:x<18446744073709551616):au prog 335 [.int .u64 x] (.int .i64 (64-(Lib.bitLen x:Int))):=by
 refine lD (jY func335 (by kernel_rfl)) fun w ad d _ _ c=>?_;obtain⟨a,rfl,b⟩:=ya c;simp only[aD]at b;subst b;refine(bits_LeadingZeros64 x w (by omega) (by omega)).mono ?_;rintro e w' ⟨rfl,rfl⟩;refine⟨_,rfl,⟨gb _,fun _ _=>rfl,rfl,rfl⟩,fun w ad=>?_⟩;simp only[aD];rfl
end Go.ak
namespace Go.ak
open Go.Proofs
theorem fp(n:Int)(h:0<=n)(a:n<wB):a6.wrap n=n:=IntWalk.u64_in n ⟨h,by simp only[wB]at a;omega⟩
def cg(n:Nat)(f:Nat->Nat):List AV:=(a7 n).map fun j=>uA (f j)
theorem KU(n:Nat)(f:Nat->Nat):(cg n f).length=n:=by simp[cg]
theorem mn{n j:Nat}(f:Nat->Nat)(h:j<n):(cg n f)[j]?=some (.p (.int .u64 (f j))):=by
 rw[cg,b0,bv h];rfl
theorem B8{n:Nat}{f:Nat->Nat}(h:∀j,f j=0):cb n (AV.p (.int .u64 0))=cg n f:=by
 apply a8 (by simp[cg]);intro i a b;simp[cg,uA,h]
theorem oS{n i v:Nat}{f g:Nat->Nat}(d:g i=v)(c:∀k,k≠i->g k=f k):(cg n f).set i (.p (.int .u64 v))=cg n g:=by
 apply a8 (by simp[cg]);intro j e b;simp only[cg,b5,bV]at b;rw[b2];simp only[cg,b3,bI,uA]
 by_cases a:i=j
 ·subst a;rw[if_pos rfl,d]
 ·rw[if_neg a,c j (by omega)]
theorem B9(n:Nat)(f:Nat->Nat):cg n f=((a7 n).map f).map (AV.p∘fun x:Nat=>PV.int .u64 x):=by
 rw[cg,bo];rfl
theorem Bo{n:Nat}{f g:Nat->Nat}(h:∀k,f k=g k):cg n f=cg n g:=by rw[show f=g from funext h]
@[simp] theorem aL3{N:Nat×Nat->Prop}{n:Nat}{f:Nat->Nat}:aX N (cg n f)=True:=by
 rw[cV,eq_iff_iff,iff_true];intro v a;simp only[cg,bi]at a;obtain⟨x,_,rfl⟩:=a;trivial
@[simp] theorem aL7{σ:Nat->Nat}{n:Nat}{f:Nat->Nat}:cO σ (cg n f)=cg n f:=by
 have:∀l:List Nat,cO σ (l.map fun j=>uA (f j))=l.map fun j=>uA (f j):=by
  intro l
  induction l with
  |nil=>rfl
  |cons a r b=>simp only[bl,cO,b];rfl
 exact this _
theorem mul_two(P o k:Nat)(h:(P+o+k)/wB<wB)(a:o<wB)(hk:k<wB):
 ((P% wB+o+0)% wB+k+0)% wB=(P+o+k)% wB/\P/wB+(P% wB+o+0)/wB+((P% wB+o+0)% wB+k+0)/wB=(P+o+k)/wB/\P/wB+(P% wB+o+0)/wB<wB:=by
 simp only[wB]at*;omega
theorem T8(a b:Nat)(D:(aw wB a).length+(aw wB b).length<=1000000):au prog 256 [eN a,eN b] (eN (a*b)):=by
 refine aI nf MK mix (by simp[f256]) ?_;have P:∀i(h:i<(aw wB a).length),(aw wB a)[i]=ae wB a i:=fun i h=>ey bn h;have Q:∀i(h:i<(aw wB b).length),(aw wB b)[i]=ae wB b i:=fun i h=>ey bn h;have t:=ch bn a;have q:=ch bn b;have U:eg ((a7 ((aw wB a).length+(aw wB b).length)).map (ae wB (a*b)))=aw wB (a*b):=jo bn (by
  rw[eq];exact ee t q)
 have e:=sS ((a7 ((aw wB a).length+(aw wB b).length)).map (ae wB (a*b))) (by simp;omega);rw[U]at e;simp only[eN];generalize aw wB (a*b)=z at*;generalize aw wB a=x at*;generalize aw wB b=y at*;obtain⟨n,d⟩:∃n,x.length=n:=⟨_,rfl⟩
 obtain⟨m,c⟩:∃m,y.length=m:=⟨_,rfl⟩
 rw[d]at t e D;rw[c]at q e D;have E:=B9 (n+m) (ae wB (a*b));have u:((a7 (n+m)).map (ae wB (a*b))).length=n+m:=by simp
 generalize (a7 (n+m)).map (ae wB (a*b))=l at e E u;have ag:a2.wrap ((n:Int)+m)=((n+m:Nat):Int):=by rw[aP _ (by omega) (by omega)];omega
 have T:((n:Int)+m).toNat=n+m:=by omega
 have S:0<=(n:Int)+m:=by omega
 have X:a2.wrap ((n:Int)+m)=(n:Int)+m:=aP _ (by omega) (by omega);simp[f256,d,c,X,T,S];refine⟨by simp only[cW];omega,?_⟩;rw[B8 (f:=df wB a b 0 0) (by intro j;simp[oJ,ew,ae])];refine lp (α:=Nat) (fun i=>⟨[(22,.p (.int .i64 i)),(21,.p (.int .i64 n)),(20,.p (.seq (x.map fun x:Nat=>.int .u64 x))),(5,.sl 0 0 1 0 (n+m)),(1,.p (.seq (y.map fun x:Nat=>.int .u64 x)))],[.arr .exact 0 1 (cg (n+m) (df wB a b i 0))]⟩)
  (fun i=>i<=n) (fun i=>n-i) 0 (by simp) ?_ (he:=by simp)
 intro i k1;have V:=b9 (i:=i) (by omega)
 by_cases hi:i<n
 ·have F:i<x.length:=by rw[d];exact hi
  have hx:=P i F;simp[d,c,hi,F,hx];refine lp (α:=Nat) (fun j=>⟨[(29,.p (.int .i64 j)),(28,.p (.int .i64 m)),(27,.p (.seq (y.map fun x:Nat=>.int .u64 x))),(8,.p (.int .u64 (mulC wB a b i j:Nat))),(7,.p (.int .u64 (ae wB a i:Nat))),(6,.p (.int .i64 i)),(22,.p (.int .i64 i)),(21,.p (.int .i64 n)),(20,.p (.seq (x.map fun x:Nat=>.int .u64 x))),(5,.sl 0 0 1 0 (n+m)),(1,.p (.seq (y.map fun x:Nat=>.int .u64 x)))],[.arr .exact 0 1 (cg (n+m) (df wB a b i j))]⟩)
   (fun j=>j<=m) (fun j=>m-j) 0 (by simp) ?_ (he:=by simp[Bn])
  intro j k2;have W:=b9 (i:=j) (by omega);have A:((i:Int)+j).toNat=i+j:=by omega
  have w:0<=(i:Int)+j:=by omega
  have I:a2.wrap ((i:Int)+j)=(i:Int)+j:=aP _ (by omega) (by omega)
  by_cases G:j<m
  ·have H:j<y.length:=by rw[c];exact G
   have Z:=Q j H;have s:i+j<n+m:=by omega
   have o:=mn (df wB a b i j) s;have r:=B7 bn a b i j;have M:=sO bn a b i j;have N:=sO bn a b i (j+1);have O:df wB a b i j (i+j)<wB:=by rw[df];split<;>exact cr bn _ _
   obtain⟨e1,e2,e3⟩:=mul_two (ae wB a i*ae wB b j) (df wB a b i j (i+j)) (mulC wB a b i j) (by rw[r.2];exact N) O M;rw[r.1]at e1;rw[r.2]at e2;have J:=yn (ae wB a i) (ae wB b j) (cr bn _ _) (cr bn _ _);rw[show(18446744073709551616:Nat)=wB from rfl]at J;have ab:=qD (ae wB a i*ae wB b j% wB) (df wB a b i j (i+j)) 0 (by omega);have K:=qD ((ae wB a i*ae wB b j% wB+df wB a b i j (i+j)+0)% wB) (mulC wB a b i j) 0 (by omega);rw[e1]at K;have hs:=oS (n:=n+m) (i:=i+j) (f:=df wB a b i j) (g:=df wB a b i (j+1)) (J9 a b i j) (fun k hk=>It bn hk);generalize ae wB a i*ae wB b j% wB=L at*;generalize ae wB a i*ae wB b j/wB=B at*;generalize (L+df wB a b i j (i+j)+0)% wB=ac at*;generalize (L+df wB a b i j (i+j)+0)/wB=C at*;generalize (ac+mulC wB a b i j+0)/wB=ad at*;have w1:a6.wrap ((B:Int)+C)=((B+C:Nat):Int):=by rw[fp _ (by omega) (by omega)];omega
   have af:a6.wrap ((B:Int)+C+ad)=(mulC wB a b i (j+1):Nat):=by rw[fp _ (by omega) (by omega)];omega
   simp[d,c,G,H,Z];refine c2 J ?_;simp[I,A,w,s,o,aa,aL,bD];refine c3 ab ?_;simp[w1];refine c3 K ?_;simp[I,A,w,s,o,hs,w1,af,W,aa,aL,bD];exact rd (j+1) (show j+1<=m by omega)
  have:j=m:=by omega
  subst this;have Y:a2.wrap ((i:Int)+j)=(i:Int)+j:=aP _ (by omega) (by omega);have al:i+j<n+j:=by omega
  have o:=mn (df wB a b i j) al;have hs:=oS (n:=n+j) (i:=i+j) (f:=df wB a b i j) (g:=df wB a b (i+1) 0) (v:=mulC wB a b i j) (by rw[oJ,G2 bn q]) (fun k hk=>by rw[oJ,Ka bn q hk]);simp[c,Y,A,w,hi,al,o,hs,V,aa,aL,bD];exact rd (i+1) (show i+1<=n by omega)
 have:i=n:=by omega
 subst this;have R:cg (i+m) (df wB a b i 0)=cg (i+m) (ae wB (a*b)):=Bo fun k=>by rw[oJ,cv t]
 simp[d,R,E];refine cp e (by simp[u];exact⟨rfl,rfl⟩) ?_ (h1:=by simp[eW,bb,u]);simp;exact bC.refl _
end Go.ak
