import Derived.Test.YtcnpijmfgfnpiaaGreatDoorXKF2
set_option linter.unusedVariables false
set_option linter.unusedSimpArgs false
namespace Go.Proofs.YtcnpijmfgfnpiaaGreatDoor
open K Go Go.Proofs
theorem Ad:km 3000=some true:=by decide+kernel
end Go.Proofs.YtcnpijmfgfnpiaaGreatDoor
