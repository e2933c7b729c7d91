/- What Go code of this program comes to on a small machine that its translation simulates (a part of the proof of TimerNever). No condition. -/
import Derived.Test.YthbopkpamlbjoaaGreatDoorRows
import Derived.JoinedOf
import Derived.JoinedCond
import Derived.KernelRfl
set_option linter.unusedSimpArgs false
set_option linter.unusedVariables false
set_option linter.unusedSectionVars false
set_option maxHeartbeats 4000000
namespace Go.Ab
section
open Go.Proofs.YthbopkpamlbjoaaGreatDoor
open Go.Proofs (Tryz.prog Tryz.f6)
theorem fact6_0:(Rows.timerNeverUptoRow.wf (OpenSpec.ofChange Rows.timerNeverSpec))=true:=by kernel_rfl
theorem fact6_1:(laidOutB Tryz.prog)=true:=by kernel_rfl
theorem fact6_2:(mapsRowed Tryz.prog)=true:=by kernel_rfl
theorem fact6_3:(Tryz.f6.params.all (Tryz.prog.readableRec ·))=true:=by kernel_rfl
theorem fact6_4:(namedTie Tryz.prog Rows.timerNeverUptoRow.named Rows.timerNeverSpec.vars)=true:=by kernel_rfl
theorem fact6_5:((Rows.timerNeverUptoRow.stops==[]))=true:=by kernel_rfl
theorem fact6_6:((Tryz.prog.stops==[]))=true:=by kernel_rfl
theorem fact6_7:((Rows.timerNeverUptoRow.knobs==[]))=true:=by kernel_rfl
theorem fact6_8:((Tryz.prog.stopKnobs==[]))=true:=by kernel_rfl
theorem fact6_9:((Rows.timerNeverUptoRow.inPlace==Tryz.prog.inPlace 6))=true:=by kernel_rfl
theorem fact6_10:((Rows.timerNeverUptoRow.unfollowed==Tryz.prog.unfollowed 6))=true:=by kernel_rfl
theorem fact6_11:((Rows.timerNeverUptoRow.recurses==Tryz.prog.recurses 6))=true:=by kernel_rfl
theorem fact6_12:((Rows.timerNeverUptoRow.named==Tryz.prog.varsNamed 6))=true:=by kernel_rfl
theorem fact6_13:((Rows.timerNeverUptoRow.maps==(Tryz.f6.params.toList++Rows.timerNeverSpec.plain.varTypes Tryz.prog).any (Tryz.prog.mapsRec ·)))=true:=by kernel_rfl
theorem fact6_14:((Rows.timerNeverUptoRow.ifaces==(Tryz.f6.params.toList++Rows.timerNeverSpec.plain.varTypes Tryz.prog).any (Tryz.prog.ifacesRec ·)))=true:=by kernel_rfl
theorem fact6_15:((Rows.timerNeverUptoRow.mapsOut==Tryz.prog.mapsAmong Tryz.f6.resultTypes.toList))=true:=by kernel_rfl
theorem fact6_16:((Rows.timerNeverUptoRow.loops==(Tryz.f6.params.toList++Rows.timerNeverSpec.plain.varTypes Tryz.prog).any (Tryz.prog.loopsFrom ·)))=true:=by kernel_rfl
theorem fact6_17:((Rows.timerNeverUptoRow.wideKeys==(Tryz.f6.params.toList++Rows.timerNeverSpec.plain.varTypes Tryz.prog++Tryz.f6.resultTypes.toList).any (Tryz.prog.wideKeysFrom ·)))=true:=by kernel_rfl
theorem fact6_18:(Rows.timerNeverSpec.vars.all (Tryz.prog.varReadable ·))=true:=by kernel_rfl
theorem fact6_19:(Tryz.f6.resultTypes.all (fun t=>Tryz.prog.readableRec t&&decide (t<Tryz.prog.types.size)))=true:=by kernel_rfl
theorem fact6_20:((Rows.timerNeverUptoRow.ifacesOut==Tryz.f6.resultTypes.toList.any (Tryz.prog.ifacesRec ·)))=true:=by kernel_rfl
theorem fact6_21:((Rows.timerNeverUptoRow.loopsOut==Tryz.f6.resultTypes.toList.any (Tryz.prog.loopsFrom ·)))=true:=by kernel_rfl
theorem fact6_22:((Rows.timerNeverUptoRow.plainKeys==Tryz.prog.plainKeys))=true:=by kernel_rfl
theorem fact6_23:(Rows.timerNeverUptoRow.shortTexts.isNone)=true:=by kernel_rfl
theorem fact6_24:(Tryz.prog.stopsHeard)=true:=by kernel_rfl
theorem fact6_25:(Tryz.prog.mayEnter)=true:=by kernel_rfl
theorem fact6_26:((Rows.timerNeverUptoRow.lifted==Tryz.prog.liftsFinal))=true:=by kernel_rfl
theorem fact6_27:((Tryz.prog.make==some Rows.timerNeverUptoRow.make))=true:=by kernel_rfl
theorem fact6_28:((Rows.timerNeverUptoRow.kinds==(if Rows.timerNeverUptoRow.domain.isEmpty then[] else Tryz.f6.params.toList.map fun t=>match Tryz.prog.underlying t with | some (.int k)=>some k | _=>none)))=true:=by kernel_rfl
theorem fact6_29:((Rows.timerNeverUptoRow.pinned==Rows.timerNeverUptoRow.pinnedBy))=true:=by kernel_rfl
theorem fact6_30:((Rows.timerNeverUptoRow.veiled==(Tryz.f6.params.toList++Rows.timerNeverSpec.plain.varTypes Tryz.prog++Tryz.f6.resultTypes.toList).any (Tryz.prog.veiledRec ·)))=true:=by kernel_rfl
theorem fact6_31:(Rows.timerNeverUptoRow.veiledFits Tryz.prog Tryz.f6.params.toList (Tryz.f6.params.toList++Rows.timerNeverSpec.plain.varTypes Tryz.prog++Tryz.f6.resultTypes.toList))=true:=by kernel_rfl
end
end Go.Ab
