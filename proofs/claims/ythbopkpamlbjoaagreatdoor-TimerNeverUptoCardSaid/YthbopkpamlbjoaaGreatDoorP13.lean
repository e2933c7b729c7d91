/- TimerNever: its row, the bounded one, holds with its card. No condition. -/
import Derived.Test.YthbopkpamlbjoaaGreatDoorP12
set_option linter.unusedSimpArgs false
set_option linter.unusedVariables false
set_option linter.unusedSectionVars false
set_option maxHeartbeats 4000000
namespace Go.Proofs.YthbopkpamlbjoaaGreatDoor
open Go.Ab
theorem env_good:EnvGood Rows.timerNeverUptoRow.laid:=fun W hL hS=>⟨envO,envO_conds,@envO_ok ⟨W⟩ (start_ok hL hS)⟩
theorem never_holds:Rows.TimerNeverUptoCardSaid:=never_card env_good
end Go.Proofs.YthbopkpamlbjoaaGreatDoor
