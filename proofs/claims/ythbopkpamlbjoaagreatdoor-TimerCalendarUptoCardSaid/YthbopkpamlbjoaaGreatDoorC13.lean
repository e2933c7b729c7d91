/- TimerCalendar: its row, the bounded one, holds with its card. No condition. -/
import Derived.Test.YthbopkpamlbjoaaGreatDoorC12
set_option linter.unusedSimpArgs false
set_option linter.unusedVariables false
set_option linter.unusedSectionVars false
set_option maxHeartbeats 4000000
namespace Go.Proofs.YthbopkpamlbjoaaGreatDoor
open Go.Ab
theorem env_goodC:EnvGood Rows.timerCalendarUptoRow.laid:=fun W hL hS=>⟨envO,envO_conds,@envO_ok ⟨W⟩ (start_ok hL hS)⟩
theorem calendar_holds:Rows.TimerCalendarUptoCardSaid:=cal_card env_goodC
end Go.Proofs.YthbopkpamlbjoaaGreatDoor
