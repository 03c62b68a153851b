import Derived.Test.YtcnpijmfgfnpiaaGreatDoorWB5
set_option linter.unusedSimpArgs false
set_option linter.unusedVariables false
namespace Go.Proofs.YtcnpijmfgfnpiaaGreatDoor
namespace K
open Go
section
variable {c:Cx}{Γ:Ga}{u:Ty}{v:Value}{T:TypeId}{F:List D}
end
end K
end Go.Proofs.YtcnpijmfgfnpiaaGreatDoor
