import Derived.Test.YtembaldpmgjjbaaGreatDoorXPC
import Derived.Test.YtembaldpmgjjbaaGreatDoorXPD
import Derived.Test.YtembaldpmgjjbaaGreatDoorXPE
import Derived.Test.YtembaldpmgjjbaaGreatDoorCards
import Derived.Test.YtembaldpmgjjbaaGreatDoorTie
import Derived.Seven
/- Parts of a proof. -/
set_option maxRecDepth 100000
set_option linter.unusedSimpArgs false
set_option linter.unusedVariables false
set_option linter.unusedSectionVars false
open Go.Proofs.Tryz
namespace Go.Proofs.YtembaldpmgjjbaaGreatDoor.aimPlans
open Go.ae
theorem params:f3.params.toList=[29,9,32]:=k_
theorem k0:(Rows.aimPlansUptoRow.wf (OpenSpec.ofChange (Rows.OpenSpec.upto Rows.aimPlansSpec).bare))=true:=k_
theorem k1:(laidOutB prog)=true:=aPb
theorem k2:(mapsRowed prog)=true:=aPf
theorem k3:(f3.params.all (prog.readableRec ·))=true:=k_
theorem k4:(namedTie prog Rows.aimPlansUptoRow.named (Rows.OpenSpec.upto Rows.aimPlansSpec).bare.vars)=true:=k_
theorem k5:((Rows.aimPlansUptoRow.stops==[]))=true:=k_
theorem k6:((prog.stops==[]))=true:=by rw[aPi];rfl
theorem k7:((Rows.aimPlansUptoRow.knobs==[]))=true:=k_
theorem k8:((prog.stopKnobs==[]))=true:=by rw[anh];rfl
theorem k9:((Rows.aimPlansUptoRow.inPlace==prog.inPlace 3))=true:=k_
theorem jk:((Rows.aimPlansUptoRow.unfollowed==prog.unfollowed 3))=true:=k_
theorem nw:((Rows.aimPlansUptoRow.recurses==prog.recurses 3))=true:=k_
theorem nZ:((Rows.aimPlansUptoRow.named==prog.varsNamed 3))=true:=k_
theorem vT:((Rows.aimPlansUptoRow.maps==(f3.params.toList++(Rows.OpenSpec.upto Rows.aimPlansSpec).bare.plain.varTypes prog).any (prog.mapsRec ·)))=true:=k_
theorem sP:((Rows.aimPlansUptoRow.ifaces==(f3.params.toList++(Rows.OpenSpec.upto Rows.aimPlansSpec).bare.plain.varTypes prog).any (prog.ifacesRec ·)))=true:=k_
theorem yy:((Rows.aimPlansUptoRow.mapsOut==prog.mapsAmong f3.resultTypes.toList))=true:=k_
theorem I7:((Rows.aimPlansUptoRow.loops==(f3.params.toList++(Rows.OpenSpec.upto Rows.aimPlansSpec).bare.plain.varTypes prog).any (prog.loopsFrom ·)))=true:=k_
theorem k17:((Rows.aimPlansUptoRow.wideKeys==(f3.params.toList++(Rows.OpenSpec.upto Rows.aimPlansSpec).bare.plain.varTypes prog++f3.resultTypes.toList).any (prog.wideKeysFrom ·)))=true:=k_
theorem k18:((Rows.OpenSpec.upto Rows.aimPlansSpec).bare.vars.all (prog.varReadable ·))=true:=k_
theorem k19:(f3.resultTypes.all (fun t=>prog.readableRec t&&decide (t<prog.types.size)))=true:=k_
theorem k20:((Rows.aimPlansUptoRow.ifacesOut==f3.resultTypes.toList.any (prog.ifacesRec ·)))=true:=k_
theorem k21:((Rows.aimPlansUptoRow.loopsOut==f3.resultTypes.toList.any (prog.loopsFrom ·)))=true:=k_
theorem k22:((Rows.aimPlansUptoRow.plainKeys==prog.plainKeys))=true:=by rw[ani];rfl
theorem k23:(Rows.aimPlansUptoRow.shortTexts.isNone)=true:=k_
theorem k24:(prog.stopsHeard)=true:=ZV
theorem k25:(prog.mayEnter)=true:=aqC
theorem k26:((Rows.aimPlansUptoRow.lifted==prog.liftsFinal))=true:=by rw[aPc];rfl
theorem k27:((prog.make==some Rows.aimPlansUptoRow.make))=true:=by rw[aPe];rfl
theorem k28:((Rows.aimPlansUptoRow.kinds==(if Rows.aimPlansUptoRow.domain.isEmpty then[]else f3.params.toList.map fun t=>match prog.underlying t with|some (.int k)=>some k|_=>none)))=true:=k_
theorem k29:((Rows.aimPlansUptoRow.pinned==Rows.aimPlansUptoRow.pinnedBy))=true:=k_
theorem k30:((Rows.aimPlansUptoRow.veiled==(f3.params.toList++(Rows.OpenSpec.upto Rows.aimPlansSpec).bare.plain.varTypes prog++f3.resultTypes.toList).any (prog.veiledRec ·)))=true:=k_
theorem k31:(Rows.aimPlansUptoRow.veiledFits prog f3.params.toList (f3.params.toList++(Rows.OpenSpec.upto Rows.aimPlansSpec).bare.plain.varTypes prog++f3.resultTypes.toList))=true:=k_
theorem gn{a b:Bool}(h:a=true)(k:b=true):(a&&b)=true:=by rw[h,k];rfl
theorem closed:joinedFacts prog 3 f3 (Rows.OpenSpec.upto Rows.aimPlansSpec).bare Rows.aimPlansUptoRow=true:=
 gn (gn (gn (gn (gn (gn (gn (gn (gn (gn (gn (gn (gn (gn (gn (gn (gn (gn (gn (gn (gn (gn (gn (gn (gn (gn (gn (gn (gn (gn (gn (k0) k1) k2) k3) k4) k5) k6) k7) k8) k9) jk) nw) nZ) vT) sP) yy) I7) k17) k18) k19) k20) k21) k22) k23) k24) k25) k26) k27) k28) k29) k30) k31
theorem named:prog.funcNamed Rows.aimPlansUptoRow.func=some 3:=k_
theorem inst:f3.isInstance prog Rows.aimPlansUptoRow.origin Rows.aimPlansUptoRow.targs:=of_decide_eq_true k_
theorem wrap:f3.isWrapper prog Rows.aimPlansUptoRow.wrapper Rows.aimPlansUptoRow.mainSum:=by
 unfold Func.isWrapper;first|(rw[if_pos (by decide+kernel)];kernel_rfl)|(rw[if_neg (by decide+kernel)];exact⟨rfl,rfl⟩)
theorem aAN:Rows.aimPlansUptoRow.wfByText (Rows.OpenSpec.upto Rows.aimPlansSpec)=true:=k_
end Go.Proofs.YtembaldpmgjjbaaGreatDoor.aimPlans
