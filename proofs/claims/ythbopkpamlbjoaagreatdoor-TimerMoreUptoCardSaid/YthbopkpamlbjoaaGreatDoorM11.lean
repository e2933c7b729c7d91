/- What Go code of this program comes to on a small machine that its translation simulates (a part of the proof of a law of its timers). No condition. -/
import Derived.Test.YthbopkpamlbjoaaGreatDoorRows
import Derived.JoinedOf
import Derived.JoinedCond
import Derived.KernelRfl
set_option linter.unusedSimpArgs false
set_option linter.unusedVariables false
set_option linter.unusedSectionVars false
set_option maxHeartbeats 4000000
namespace Go.Ab
section
open Go.Proofs.YthbopkpamlbjoaaGreatDoor
open Go.Proofs (Tryz.prog Tryz.f5)
theorem fact5_0:(Rows.timerMoreUptoRow.wf (OpenSpec.ofChange Rows.timerMoreSpec))=true:=by kernel_rfl
theorem fact5_1:(laidOutB Tryz.prog)=true:=by kernel_rfl
theorem fact5_2:(mapsRowed Tryz.prog)=true:=by kernel_rfl
theorem fact5_3:(Tryz.f5.params.all (Tryz.prog.readableRec ·))=true:=by kernel_rfl
theorem fact5_4:(namedTie Tryz.prog Rows.timerMoreUptoRow.named Rows.timerMoreSpec.vars)=true:=by kernel_rfl
theorem fact5_5:((Rows.timerMoreUptoRow.stops==[]))=true:=by kernel_rfl
theorem fact5_6:((Tryz.prog.stops==[]))=true:=by kernel_rfl
theorem fact5_7:((Rows.timerMoreUptoRow.knobs==[]))=true:=by kernel_rfl
theorem fact5_8:((Tryz.prog.stopKnobs==[]))=true:=by kernel_rfl
theorem fact5_9:((Rows.timerMoreUptoRow.inPlace==Tryz.prog.inPlace 5))=true:=by kernel_rfl
theorem fact5_10:((Rows.timerMoreUptoRow.unfollowed==Tryz.prog.unfollowed 5))=true:=by kernel_rfl
theorem fact5_11:((Rows.timerMoreUptoRow.recurses==Tryz.prog.recurses 5))=true:=by kernel_rfl
theorem fact5_12:((Rows.timerMoreUptoRow.named==Tryz.prog.varsNamed 5))=true:=by kernel_rfl
theorem fact5_13:((Rows.timerMoreUptoRow.maps==(Tryz.f5.params.toList++Rows.timerMoreSpec.plain.varTypes Tryz.prog).any (Tryz.prog.mapsRec ·)))=true:=by kernel_rfl
theorem fact5_14:((Rows.timerMoreUptoRow.ifaces==(Tryz.f5.params.toList++Rows.timerMoreSpec.plain.varTypes Tryz.prog).any (Tryz.prog.ifacesRec ·)))=true:=by kernel_rfl
theorem fact5_15:((Rows.timerMoreUptoRow.mapsOut==Tryz.prog.mapsAmong Tryz.f5.resultTypes.toList))=true:=by kernel_rfl
theorem fact5_16:((Rows.timerMoreUptoRow.loops==(Tryz.f5.params.toList++Rows.timerMoreSpec.plain.varTypes Tryz.prog).any (Tryz.prog.loopsFrom ·)))=true:=by kernel_rfl
theorem fact5_17:((Rows.timerMoreUptoRow.wideKeys==(Tryz.f5.params.toList++Rows.timerMoreSpec.plain.varTypes Tryz.prog++Tryz.f5.resultTypes.toList).any (Tryz.prog.wideKeysFrom ·)))=true:=by kernel_rfl
theorem fact5_18:(Rows.timerMoreSpec.vars.all (Tryz.prog.varReadable ·))=true:=by kernel_rfl
theorem fact5_19:(Tryz.f5.resultTypes.all (fun t=>Tryz.prog.readableRec t&&decide (t<Tryz.prog.types.size)))=true:=by kernel_rfl
theorem fact5_20:((Rows.timerMoreUptoRow.ifacesOut==Tryz.f5.resultTypes.toList.any (Tryz.prog.ifacesRec ·)))=true:=by kernel_rfl
theorem fact5_21:((Rows.timerMoreUptoRow.loopsOut==Tryz.f5.resultTypes.toList.any (Tryz.prog.loopsFrom ·)))=true:=by kernel_rfl
theorem fact5_22:((Rows.timerMoreUptoRow.plainKeys==Tryz.prog.plainKeys))=true:=by kernel_rfl
theorem fact5_23:(Rows.timerMoreUptoRow.shortTexts.isNone)=true:=by kernel_rfl
theorem fact5_24:(Tryz.prog.stopsHeard)=true:=by kernel_rfl
theorem fact5_25:(Tryz.prog.mayEnter)=true:=by kernel_rfl
theorem fact5_26:((Rows.timerMoreUptoRow.lifted==Tryz.prog.liftsFinal))=true:=by kernel_rfl
theorem fact5_27:((Tryz.prog.make==some Rows.timerMoreUptoRow.make))=true:=by kernel_rfl
theorem fact5_28:((Rows.timerMoreUptoRow.kinds==(if Rows.timerMoreUptoRow.domain.isEmpty then[] else Tryz.f5.params.toList.map fun t=>match Tryz.prog.underlying t with | some (.int k)=>some k | _=>none)))=true:=by kernel_rfl
theorem fact5_29:((Rows.timerMoreUptoRow.pinned==Rows.timerMoreUptoRow.pinnedBy))=true:=by kernel_rfl
theorem fact5_30:((Rows.timerMoreUptoRow.veiled==(Tryz.f5.params.toList++Rows.timerMoreSpec.plain.varTypes Tryz.prog++Tryz.f5.resultTypes.toList).any (Tryz.prog.veiledRec ·)))=true:=by kernel_rfl
theorem fact5_31:(Rows.timerMoreUptoRow.veiledFits Tryz.prog Tryz.f5.params.toList (Tryz.f5.params.toList++Rows.timerMoreSpec.plain.varTypes Tryz.prog++Tryz.f5.resultTypes.toList))=true:=by kernel_rfl
end
end Go.Ab
