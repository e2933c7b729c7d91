/- What Go code of this program comes to on a small machine that its translation simulates (a part of the proof of a law of its timers). No condition. -/
import Derived.Test.YthbopkpamlbjoaaGreatDoorRows
import Derived.JoinedOf
import Derived.JoinedCond
import Derived.KernelRfl
set_option linter.unusedSimpArgs false
set_option linter.unusedVariables false
set_option linter.unusedSectionVars false
set_option maxHeartbeats 4000000
namespace Go.Ab
section
open Go.Proofs.YthbopkpamlbjoaaGreatDoor
open Go.Proofs (Tryz.prog Tryz.f4)
theorem fact4_0:(Rows.timerCalendarUptoRow.wf (OpenSpec.ofChange Rows.timerCalendarSpec))=true:=by kernel_rfl
theorem fact4_1:(laidOutB Tryz.prog)=true:=by kernel_rfl
theorem fact4_2:(mapsRowed Tryz.prog)=true:=by kernel_rfl
theorem fact4_3:(Tryz.f4.params.all (Tryz.prog.readableRec ·))=true:=by kernel_rfl
theorem fact4_4:(namedTie Tryz.prog Rows.timerCalendarUptoRow.named Rows.timerCalendarSpec.vars)=true:=by kernel_rfl
theorem fact4_5:((Rows.timerCalendarUptoRow.stops==[]))=true:=by kernel_rfl
theorem fact4_6:((Tryz.prog.stops==[]))=true:=by kernel_rfl
theorem fact4_7:((Rows.timerCalendarUptoRow.knobs==[]))=true:=by kernel_rfl
theorem fact4_8:((Tryz.prog.stopKnobs==[]))=true:=by kernel_rfl
theorem fact4_9:((Rows.timerCalendarUptoRow.inPlace==Tryz.prog.inPlace 4))=true:=by kernel_rfl
theorem fact4_10:((Rows.timerCalendarUptoRow.unfollowed==Tryz.prog.unfollowed 4))=true:=by kernel_rfl
theorem fact4_11:((Rows.timerCalendarUptoRow.recurses==Tryz.prog.recurses 4))=true:=by kernel_rfl
theorem fact4_12:((Rows.timerCalendarUptoRow.named==Tryz.prog.varsNamed 4))=true:=by kernel_rfl
theorem fact4_13:((Rows.timerCalendarUptoRow.maps==(Tryz.f4.params.toList++Rows.timerCalendarSpec.plain.varTypes Tryz.prog).any (Tryz.prog.mapsRec ·)))=true:=by kernel_rfl
theorem fact4_14:((Rows.timerCalendarUptoRow.ifaces==(Tryz.f4.params.toList++Rows.timerCalendarSpec.plain.varTypes Tryz.prog).any (Tryz.prog.ifacesRec ·)))=true:=by kernel_rfl
theorem fact4_15:((Rows.timerCalendarUptoRow.mapsOut==Tryz.prog.mapsAmong Tryz.f4.resultTypes.toList))=true:=by kernel_rfl
theorem fact4_16:((Rows.timerCalendarUptoRow.loops==(Tryz.f4.params.toList++Rows.timerCalendarSpec.plain.varTypes Tryz.prog).any (Tryz.prog.loopsFrom ·)))=true:=by kernel_rfl
theorem fact4_17:((Rows.timerCalendarUptoRow.wideKeys==(Tryz.f4.params.toList++Rows.timerCalendarSpec.plain.varTypes Tryz.prog++Tryz.f4.resultTypes.toList).any (Tryz.prog.wideKeysFrom ·)))=true:=by kernel_rfl
theorem fact4_18:(Rows.timerCalendarSpec.vars.all (Tryz.prog.varReadable ·))=true:=by kernel_rfl
theorem fact4_19:(Tryz.f4.resultTypes.all (fun t=>Tryz.prog.readableRec t&&decide (t<Tryz.prog.types.size)))=true:=by kernel_rfl
theorem fact4_20:((Rows.timerCalendarUptoRow.ifacesOut==Tryz.f4.resultTypes.toList.any (Tryz.prog.ifacesRec ·)))=true:=by kernel_rfl
theorem fact4_21:((Rows.timerCalendarUptoRow.loopsOut==Tryz.f4.resultTypes.toList.any (Tryz.prog.loopsFrom ·)))=true:=by kernel_rfl
theorem fact4_22:((Rows.timerCalendarUptoRow.plainKeys==Tryz.prog.plainKeys))=true:=by kernel_rfl
theorem fact4_23:(Rows.timerCalendarUptoRow.shortTexts.isNone)=true:=by kernel_rfl
theorem fact4_24:(Tryz.prog.stopsHeard)=true:=by kernel_rfl
theorem fact4_25:(Tryz.prog.mayEnter)=true:=by kernel_rfl
theorem fact4_26:((Rows.timerCalendarUptoRow.lifted==Tryz.prog.liftsFinal))=true:=by kernel_rfl
theorem fact4_27:((Tryz.prog.make==some Rows.timerCalendarUptoRow.make))=true:=by kernel_rfl
theorem fact4_28:((Rows.timerCalendarUptoRow.kinds==(if Rows.timerCalendarUptoRow.domain.isEmpty then[] else Tryz.f4.params.toList.map fun t=>match Tryz.prog.underlying t with | some (.int k)=>some k | _=>none)))=true:=by kernel_rfl
theorem fact4_29:((Rows.timerCalendarUptoRow.pinned==Rows.timerCalendarUptoRow.pinnedBy))=true:=by kernel_rfl
theorem fact4_30:((Rows.timerCalendarUptoRow.veiled==(Tryz.f4.params.toList++Rows.timerCalendarSpec.plain.varTypes Tryz.prog++Tryz.f4.resultTypes.toList).any (Tryz.prog.veiledRec ·)))=true:=by kernel_rfl
theorem fact4_31:(Rows.timerCalendarUptoRow.veiledFits Tryz.prog Tryz.f4.params.toList (Tryz.f4.params.toList++Rows.timerCalendarSpec.plain.varTypes Tryz.prog++Tryz.f4.resultTypes.toList))=true:=by kernel_rfl
end
end Go.Ab
