import Derived.Test.YtcnpijmfgfnpiaaGreatDoorProg
import Derived.Test.YtcnpijmfgfnpiaaGreatDoorRows
import Derived.Conc.Holds
set_option linter.unusedVariables false
set_option linter.unusedSimpArgs false
namespace Go.Proofs.YtcnpijmfgfnpiaaGreatDoor
open Go Go.Proofs
theorem PY:(Rows.trunkReadRow.wf (OpenSpec.ofChange Rows.trunkReadSpec))=true:=by kernel_rfl
theorem PX:(laidOutB Tryz.prog)=true:=by kernel_rfl
theorem PW:(mapsRowed Tryz.prog)=true:=by kernel_rfl
theorem PV:(Tryz.f17.params.all (Tryz.prog.readableRec ·))=true:=by kernel_rfl
theorem PU:(namedTie Tryz.prog Rows.trunkReadRow.named Rows.trunkReadSpec.vars)=true:=by kernel_rfl
theorem PT:((Rows.trunkReadRow.stops == []))=true:=by kernel_rfl
theorem PS:((Tryz.prog.stops == []))=true:=by kernel_rfl
theorem PR:((Rows.trunkReadRow.knobs == []))=true:=by kernel_rfl
theorem PQ:((Tryz.prog.stopKnobs == []))=true:=by kernel_rfl
theorem PP:((Rows.trunkReadRow.inPlace == Tryz.prog.inPlace (17:FuncId)))=true:=by kernel_rfl
theorem ND:((Rows.trunkReadRow.unfollowed == Tryz.prog.unfollowed (17:FuncId)))=true:=by kernel_rfl
theorem NC:((Rows.trunkReadRow.recurses == Tryz.prog.recurses (17:FuncId)))=true:=by kernel_rfl
theorem NA:((Rows.trunkReadRow.named == Tryz.prog.varsNamed (17:FuncId)))=true:=by kernel_rfl
theorem Nz:((Rows.trunkReadRow.maps == (Tryz.f17.params.toList++Rows.trunkReadSpec.plain.varTypes Tryz.prog).any (Tryz.prog.mapsRec ·)))=true:=by kernel_rfl
theorem Ny:((Rows.trunkReadRow.ifaces == (Tryz.f17.params.toList++Rows.trunkReadSpec.plain.varTypes Tryz.prog).any (Tryz.prog.ifacesRec ·)))=true:=by kernel_rfl
theorem Nw:((Rows.trunkReadRow.mapsOut == Tryz.prog.mapsAmong Tryz.f17.resultTypes.toList))=true:=by kernel_rfl
theorem Nv:((Rows.trunkReadRow.loops == (Tryz.f17.params.toList++Rows.trunkReadSpec.plain.varTypes Tryz.prog).any (Tryz.prog.loopsFrom ·)))=true:=by kernel_rfl
theorem Nu:((Rows.trunkReadRow.wideKeys == (Tryz.f17.params.toList++Rows.trunkReadSpec.plain.varTypes Tryz.prog++Tryz.f17.resultTypes.toList).any (Tryz.prog.wideKeysFrom ·)))=true:=by kernel_rfl
theorem Nr:(Rows.trunkReadSpec.vars.all (Tryz.prog.varReadable ·))=true:=by kernel_rfl
theorem Nq:(Tryz.f17.resultTypes.all (fun t=>Tryz.prog.readableRec t && decide (t < Tryz.prog.types.size)))=true:=by kernel_rfl
theorem Np:((Rows.trunkReadRow.ifacesOut == Tryz.f17.resultTypes.toList.any (Tryz.prog.ifacesRec ·)))=true:=by kernel_rfl
theorem Nn:((Rows.trunkReadRow.loopsOut == Tryz.f17.resultTypes.toList.any (Tryz.prog.loopsFrom ·)))=true:=by kernel_rfl
theorem Nl:((Rows.trunkReadRow.plainKeys == Tryz.prog.plainKeys))=true:=by kernel_rfl
theorem Nk:(Rows.trunkReadRow.shortTexts.isNone)=true:=by kernel_rfl
theorem Nj:(Tryz.prog.stopsHeard)=true:=by kernel_rfl
theorem Ni:(Tryz.prog.mayEnter)=true:=by kernel_rfl
theorem Nh:((Rows.trunkReadRow.lifted == Tryz.prog.liftsFinal))=true:=by kernel_rfl
theorem Nc:((Tryz.prog.make == some Rows.trunkReadRow.make))=true:=by kernel_rfl
theorem Nb:((Rows.trunkReadRow.pinned == Rows.trunkReadRow.pinnedBy))=true:=by kernel_rfl
theorem Na:((Rows.trunkReadRow.veiled == (Tryz.f17.params.toList++Rows.trunkReadSpec.plain.varTypes Tryz.prog++Tryz.f17.resultTypes.toList).any (Tryz.prog.veiledRec ·)))=true:=by kernel_rfl
theorem M9:(Rows.trunkReadRow.veiledFits Tryz.prog Tryz.f17.params.toList (Tryz.f17.params.toList++Rows.trunkReadSpec.plain.varTypes Tryz.prog++Tryz.f17.resultTypes.toList))=true:=by kernel_rfl
end Go.Proofs.YtcnpijmfgfnpiaaGreatDoor
