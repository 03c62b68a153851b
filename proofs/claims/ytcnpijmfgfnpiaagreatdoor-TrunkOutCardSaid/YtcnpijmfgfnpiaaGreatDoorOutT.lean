import Derived.Test.YtcnpijmfgfnpiaaGreatDoorProg
import Derived.Test.YtcnpijmfgfnpiaaGreatDoorRows
import Derived.Conc.Holds
namespace Go.Proofs.YtcnpijmfgfnpiaaGreatDoor
open Go Go.Proofs
theorem PT:(Rows.trunkOutRow.wf (OpenSpec.ofChange Rows.trunkOutSpec))=true:=by kernel_rfl
theorem PS:(laidOutB Tryz.prog)=true:=by kernel_rfl
theorem PR:(mapsRowed Tryz.prog)=true:=by kernel_rfl
theorem PQ:(Tryz.f6.params.all (Tryz.prog.readableRec ·))=true:=by kernel_rfl
theorem PP:(namedTie Tryz.prog Rows.trunkOutRow.named Rows.trunkOutSpec.vars)=true:=by kernel_rfl
theorem PO:((Rows.trunkOutRow.stops == []))=true:=by kernel_rfl
theorem PN:((Tryz.prog.stops == []))=true:=by kernel_rfl
theorem PM:((Rows.trunkOutRow.knobs == []))=true:=by kernel_rfl
theorem PL:((Tryz.prog.stopKnobs == []))=true:=by kernel_rfl
theorem PK:((Rows.trunkOutRow.inPlace == Tryz.prog.inPlace (6:FuncId)))=true:=by kernel_rfl
theorem Nu:((Rows.trunkOutRow.unfollowed == Tryz.prog.unfollowed (6:FuncId)))=true:=by kernel_rfl
theorem Nr:((Rows.trunkOutRow.recurses == Tryz.prog.recurses (6:FuncId)))=true:=by kernel_rfl
theorem Nq:((Rows.trunkOutRow.named == Tryz.prog.varsNamed (6:FuncId)))=true:=by kernel_rfl
theorem Np:((Rows.trunkOutRow.maps == (Tryz.f6.params.toList++Rows.trunkOutSpec.plain.varTypes Tryz.prog).any (Tryz.prog.mapsRec ·)))=true:=by kernel_rfl
theorem Nn:((Rows.trunkOutRow.ifaces == (Tryz.f6.params.toList++Rows.trunkOutSpec.plain.varTypes Tryz.prog).any (Tryz.prog.ifacesRec ·)))=true:=by kernel_rfl
theorem Nl:((Rows.trunkOutRow.mapsOut == Tryz.prog.mapsAmong Tryz.f6.resultTypes.toList))=true:=by kernel_rfl
theorem Nk:((Rows.trunkOutRow.loops == (Tryz.f6.params.toList++Rows.trunkOutSpec.plain.varTypes Tryz.prog).any (Tryz.prog.loopsFrom ·)))=true:=by kernel_rfl
theorem Nj:((Rows.trunkOutRow.wideKeys == (Tryz.f6.params.toList++Rows.trunkOutSpec.plain.varTypes Tryz.prog++Tryz.f6.resultTypes.toList).any (Tryz.prog.wideKeysFrom ·)))=true:=by kernel_rfl
theorem Ni:(Rows.trunkOutSpec.vars.all (Tryz.prog.varReadable ·))=true:=by kernel_rfl
theorem Nh:(Tryz.f6.resultTypes.all (fun t=>Tryz.prog.readableRec t && decide (t < Tryz.prog.types.size)))=true:=by kernel_rfl
theorem Nc:((Rows.trunkOutRow.ifacesOut == Tryz.f6.resultTypes.toList.any (Tryz.prog.ifacesRec ·)))=true:=by kernel_rfl
theorem Nb:((Rows.trunkOutRow.loopsOut == Tryz.f6.resultTypes.toList.any (Tryz.prog.loopsFrom ·)))=true:=by kernel_rfl
theorem Na:((Rows.trunkOutRow.plainKeys == Tryz.prog.plainKeys))=true:=by kernel_rfl
theorem M9:(Rows.trunkOutRow.shortTexts.isNone)=true:=by kernel_rfl
theorem M8:(Tryz.prog.stopsHeard)=true:=by kernel_rfl
theorem M7:(Tryz.prog.mayEnter)=true:=by kernel_rfl
theorem M6:((Rows.trunkOutRow.lifted == Tryz.prog.liftsFinal))=true:=by kernel_rfl
theorem M5:((Tryz.prog.make == some Rows.trunkOutRow.make))=true:=by kernel_rfl
theorem M4:((Rows.trunkOutRow.pinned == Rows.trunkOutRow.pinnedBy))=true:=by kernel_rfl
theorem MZ:((Rows.trunkOutRow.veiled == (Tryz.f6.params.toList++Rows.trunkOutSpec.plain.varTypes Tryz.prog++Tryz.f6.resultTypes.toList).any (Tryz.prog.veiledRec ·)))=true:=by kernel_rfl
theorem MY:(Rows.trunkOutRow.veiledFits Tryz.prog Tryz.f6.params.toList (Tryz.f6.params.toList++Rows.trunkOutSpec.plain.varTypes Tryz.prog++Tryz.f6.resultTypes.toList))=true:=by kernel_rfl
end Go.Proofs.YtcnpijmfgfnpiaaGreatDoor
