/- TimerMore: its row, the bounded one, holds with its card. No condition. -/
import Derived.Test.YthbopkpamlbjoaaGreatDoorM12
set_option linter.unusedSimpArgs false
set_option linter.unusedVariables false
set_option linter.unusedSectionVars false
set_option maxHeartbeats 4000000
namespace Go.Proofs.YthbopkpamlbjoaaGreatDoor
open Go.Ab
theorem env_goodM:EnvGood Rows.timerMoreUptoRow.laid:=fun W hL hS=>⟨envO,envO_conds,@envO_ok ⟨W⟩ (start_ok hL hS)⟩
theorem more_holds:Rows.TimerMoreUptoCardSaid:=more_card env_goodM
end Go.Proofs.YthbopkpamlbjoaaGreatDoor
