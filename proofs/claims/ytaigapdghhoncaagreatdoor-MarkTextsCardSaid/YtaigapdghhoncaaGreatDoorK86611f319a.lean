/- Texts joined for claims: C0. -/
import Derived.Test.YtaigapdghhoncaaGreatDoorK7a325aec7b
set_option linter.unusedVariables false
set_option linter.unusedSimpArgs false
set_option linter.unusedSectionVars false
namespace Go.Proofs
open Go Go.Vk Go.Vk.Flow

theorem cardMain : YtaigapdghhoncaaGreatDoor.Tryz.pinned.checked.prog.mainIs = some (true, "b6e0e925c04c287910193048745130e7e877e3ca98d5b96c7dcd1bc8807703e3".toList) := by kernel_rfl
theorem cardLooks : true = YtaigapdghhoncaaGreatDoor.Tryz.pinned.checked.prog.looks [] := by kernel_rfl
theorem cardStand : ([3, 4, 5, 9, 25, 30, 39, 41, 50, 51, 52].all fun u => !Tryz.prog.wantsStandIn u) = true := by kernel_rfl

end Go.Proofs
