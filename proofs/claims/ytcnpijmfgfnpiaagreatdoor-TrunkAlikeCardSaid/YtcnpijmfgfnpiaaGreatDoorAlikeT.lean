import Derived.Test.YtcnpijmfgfnpiaaGreatDoorProg
import Derived.Test.YtcnpijmfgfnpiaaGreatDoorRows
import Derived.Conc.Holds
set_option linter.unusedVariables false
set_option linter.unusedSimpArgs false
namespace Go.Proofs.YtcnpijmfgfnpiaaGreatDoor
open Go Go.Proofs
theorem PV:(Rows.trunkAlikeRow.wf (OpenSpec.ofChange Rows.trunkAlikeSpec))=true:=by kernel_rfl
theorem PU:(laidOutB Tryz.prog)=true:=by kernel_rfl
theorem PT:(mapsRowed Tryz.prog)=true:=by kernel_rfl
theorem PS:(Tryz.f11.params.all (Tryz.prog.readableRec ·))=true:=by kernel_rfl
theorem PR:(namedTie Tryz.prog Rows.trunkAlikeRow.named Rows.trunkAlikeSpec.vars)=true:=by kernel_rfl
theorem PQ:((Rows.trunkAlikeRow.stops == []))=true:=by kernel_rfl
theorem PP:((Tryz.prog.stops == []))=true:=by kernel_rfl
theorem PO:((Rows.trunkAlikeRow.knobs == []))=true:=by kernel_rfl
theorem PN:((Tryz.prog.stopKnobs == []))=true:=by kernel_rfl
theorem PM:((Rows.trunkAlikeRow.inPlace == Tryz.prog.inPlace (11:FuncId)))=true:=by kernel_rfl
theorem Nz:((Rows.trunkAlikeRow.unfollowed == Tryz.prog.unfollowed (11:FuncId)))=true:=by kernel_rfl
theorem Ny:((Rows.trunkAlikeRow.recurses == Tryz.prog.recurses (11:FuncId)))=true:=by kernel_rfl
theorem Nw:((Rows.trunkAlikeRow.named == Tryz.prog.varsNamed (11:FuncId)))=true:=by kernel_rfl
theorem Nv:((Rows.trunkAlikeRow.maps == (Tryz.f11.params.toList++Rows.trunkAlikeSpec.plain.varTypes Tryz.prog).any (Tryz.prog.mapsRec ·)))=true:=by kernel_rfl
theorem Nu:((Rows.trunkAlikeRow.ifaces == (Tryz.f11.params.toList++Rows.trunkAlikeSpec.plain.varTypes Tryz.prog).any (Tryz.prog.ifacesRec ·)))=true:=by kernel_rfl
theorem Nr:((Rows.trunkAlikeRow.mapsOut == Tryz.prog.mapsAmong Tryz.f11.resultTypes.toList))=true:=by kernel_rfl
theorem Nq:((Rows.trunkAlikeRow.loops == (Tryz.f11.params.toList++Rows.trunkAlikeSpec.plain.varTypes Tryz.prog).any (Tryz.prog.loopsFrom ·)))=true:=by kernel_rfl
theorem Np:((Rows.trunkAlikeRow.wideKeys == (Tryz.f11.params.toList++Rows.trunkAlikeSpec.plain.varTypes Tryz.prog++Tryz.f11.resultTypes.toList).any (Tryz.prog.wideKeysFrom ·)))=true:=by kernel_rfl
theorem Nn:(Rows.trunkAlikeSpec.vars.all (Tryz.prog.varReadable ·))=true:=by kernel_rfl
theorem Nl:(Tryz.f11.resultTypes.all (fun t=>Tryz.prog.readableRec t && decide (t < Tryz.prog.types.size)))=true:=by kernel_rfl
theorem Nk:((Rows.trunkAlikeRow.ifacesOut == Tryz.f11.resultTypes.toList.any (Tryz.prog.ifacesRec ·)))=true:=by kernel_rfl
theorem Nj:((Rows.trunkAlikeRow.loopsOut == Tryz.f11.resultTypes.toList.any (Tryz.prog.loopsFrom ·)))=true:=by kernel_rfl
theorem Ni:((Rows.trunkAlikeRow.plainKeys == Tryz.prog.plainKeys))=true:=by kernel_rfl
theorem Nh:(Rows.trunkAlikeRow.shortTexts.isNone)=true:=by kernel_rfl
theorem Nc:(Tryz.prog.stopsHeard)=true:=by kernel_rfl
theorem Nb:(Tryz.prog.mayEnter)=true:=by kernel_rfl
theorem Na:((Rows.trunkAlikeRow.lifted == Tryz.prog.liftsFinal))=true:=by kernel_rfl
theorem M9:((Tryz.prog.make == some Rows.trunkAlikeRow.make))=true:=by kernel_rfl
theorem M8:((Rows.trunkAlikeRow.pinned == Rows.trunkAlikeRow.pinnedBy))=true:=by kernel_rfl
theorem M7:((Rows.trunkAlikeRow.veiled == (Tryz.f11.params.toList++Rows.trunkAlikeSpec.plain.varTypes Tryz.prog++Tryz.f11.resultTypes.toList).any (Tryz.prog.veiledRec ·)))=true:=by kernel_rfl
theorem M6:(Rows.trunkAlikeRow.veiledFits Tryz.prog Tryz.f11.params.toList (Tryz.f11.params.toList++Rows.trunkAlikeSpec.plain.varTypes Tryz.prog++Tryz.f11.resultTypes.toList))=true:=by kernel_rfl
end Go.Proofs.YtcnpijmfgfnpiaaGreatDoor
