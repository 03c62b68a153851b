import Derived.Test.YtghkncjelangeaaGreatDoorProg
import Derived.Test.YtghkncjelangeaaGreatDoorRows
import Derived.Conc.Holds
set_option linter.unusedVariables false
set_option linter.unusedSimpArgs false
namespace Go.Proofs.YtghkncjelangeaaGreatDoor
open Go Go.Proofs
theorem Su:(Rows.trunkLiftsRow.wf (OpenSpec.ofChange Rows.trunkLiftsSpec))=true:=by kernel_rfl
theorem Ss:(laidOutB Tryz.prog)=true:=by kernel_rfl
theorem Sr:(mapsRowed Tryz.prog)=true:=by kernel_rfl
theorem Sm:(Tryz.f7.params.all (Tryz.prog.readableRec ·))=true:=by kernel_rfl
theorem Sl:(namedTie Tryz.prog Rows.trunkLiftsRow.named Rows.trunkLiftsSpec.vars)=true:=by kernel_rfl
theorem Sj:((Rows.trunkLiftsRow.stops == []))=true:=by kernel_rfl
theorem Si:((Tryz.prog.stops == []))=true:=by kernel_rfl
theorem R9:((Rows.trunkLiftsRow.knobs == []))=true:=by kernel_rfl
theorem R7:((Tryz.prog.stopKnobs == []))=true:=by kernel_rfl
theorem R2:((Rows.trunkLiftsRow.inPlace == Tryz.prog.inPlace (7:FuncId)))=true:=by kernel_rfl
theorem PT:((Rows.trunkLiftsRow.unfollowed == Tryz.prog.unfollowed (7:FuncId)))=true:=by kernel_rfl
theorem PS:((Rows.trunkLiftsRow.recurses == Tryz.prog.recurses (7:FuncId)))=true:=by kernel_rfl
theorem PR:((Rows.trunkLiftsRow.named == Tryz.prog.varsNamed (7:FuncId)))=true:=by kernel_rfl
theorem PQ:((Rows.trunkLiftsRow.maps == (Tryz.f7.params.toList++Rows.trunkLiftsSpec.plain.varTypes Tryz.prog).any (Tryz.prog.mapsRec ·)))=true:=by kernel_rfl
theorem PP:((Rows.trunkLiftsRow.ifaces == (Tryz.f7.params.toList++Rows.trunkLiftsSpec.plain.varTypes Tryz.prog).any (Tryz.prog.ifacesRec ·)))=true:=by kernel_rfl
theorem PO:((Rows.trunkLiftsRow.mapsOut == Tryz.prog.mapsAmong Tryz.f7.resultTypes.toList))=true:=by kernel_rfl
theorem PN:((Rows.trunkLiftsRow.loops == (Tryz.f7.params.toList++Rows.trunkLiftsSpec.plain.varTypes Tryz.prog).any (Tryz.prog.loopsFrom ·)))=true:=by kernel_rfl
theorem PM:((Rows.trunkLiftsRow.wideKeys == (Tryz.f7.params.toList++Rows.trunkLiftsSpec.plain.varTypes Tryz.prog++Tryz.f7.resultTypes.toList).any (Tryz.prog.wideKeysFrom ·)))=true:=by kernel_rfl
theorem PL:(Rows.trunkLiftsSpec.vars.all (Tryz.prog.varReadable ·))=true:=by kernel_rfl
theorem PK:(Tryz.f7.resultTypes.all (fun t=>Tryz.prog.readableRec t && decide (t < Tryz.prog.types.size)))=true:=by kernel_rfl
theorem PI:((Rows.trunkLiftsRow.ifacesOut == Tryz.f7.resultTypes.toList.any (Tryz.prog.ifacesRec ·)))=true:=by kernel_rfl
theorem PH:((Rows.trunkLiftsRow.loopsOut == Tryz.f7.resultTypes.toList.any (Tryz.prog.loopsFrom ·)))=true:=by kernel_rfl
theorem PG:((Rows.trunkLiftsRow.plainKeys == Tryz.prog.plainKeys))=true:=by kernel_rfl
theorem PE:(Rows.trunkLiftsRow.shortTexts.isNone)=true:=by kernel_rfl
theorem PD:(Tryz.prog.stopsHeard)=true:=by kernel_rfl
theorem PC:(Tryz.prog.mayEnter)=true:=by kernel_rfl
theorem Pz:((Rows.trunkLiftsRow.lifted == Tryz.prog.liftsFinal))=true:=by kernel_rfl
theorem Py:((Tryz.prog.make == some Rows.trunkLiftsRow.make))=true:=by kernel_rfl
theorem Px:((Rows.trunkLiftsRow.pinned == Rows.trunkLiftsRow.pinnedBy))=true:=by kernel_rfl
theorem Po:((Rows.trunkLiftsRow.veiled == (Tryz.f7.params.toList++Rows.trunkLiftsSpec.plain.varTypes Tryz.prog++Tryz.f7.resultTypes.toList).any (Tryz.prog.veiledRec ·)))=true:=by kernel_rfl
theorem Pn:(Rows.trunkLiftsRow.veiledFits Tryz.prog Tryz.f7.params.toList (Tryz.f7.params.toList++Rows.trunkLiftsSpec.plain.varTypes Tryz.prog++Tryz.f7.resultTypes.toList))=true:=by kernel_rfl
end Go.Proofs.YtghkncjelangeaaGreatDoor
