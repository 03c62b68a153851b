import Derived.Test.YtddkbkkogpolaaaGreatProg
import Derived.Test.YtddkbkkogpolaaaGreatRows
import Derived.Conc.Holds
open Nat
open List hiding mem_of_getElem?
open Array hiding mem_of_getElem? mk
set_option linter.unusedVariables false
set_option linter.unusedSimpArgs false
namespace Go.Proofs.YtddkbkkogpolaaaGreat
open Go Go.Proofs
theorem Td:(Rows.mothStateRow.wf (OpenSpec.ofChange Rows.mothStateSpec))=true:=by kernel_rfl
theorem Ta:(laidOutB Tryz.prog)=true:=by kernel_rfl
theorem S9:(mapsRowed Tryz.prog)=true:=by kernel_rfl
theorem S7:(Tryz.f3.params.all (Tryz.prog.readableRec ·))=true:=by kernel_rfl
theorem S5:(namedTie Tryz.prog Rows.mothStateRow.named Rows.mothStateSpec.vars)=true:=by kernel_rfl
theorem SZ:((Rows.mothStateRow.stops == []))=true:=by kernel_rfl
theorem SY:((Tryz.prog.stops == []))=true:=by kernel_rfl
theorem SX:((Rows.mothStateRow.knobs == []))=true:=by kernel_rfl
theorem SV:((Tryz.prog.stopKnobs == []))=true:=by kernel_rfl
theorem SU:((Rows.mothStateRow.inPlace == Tryz.prog.inPlace (3:FuncId)))=true:=by kernel_rfl
theorem QQ:((Rows.mothStateRow.unfollowed == Tryz.prog.unfollowed (3:FuncId)))=true:=by kernel_rfl
theorem QP:((Rows.mothStateRow.recurses == Tryz.prog.recurses (3:FuncId)))=true:=by kernel_rfl
theorem QO:((Rows.mothStateRow.named == Tryz.prog.varsNamed (3:FuncId)))=true:=by kernel_rfl
theorem QN:((Rows.mothStateRow.maps == (Tryz.f3.params.toList++Rows.mothStateSpec.plain.varTypes Tryz.prog).any (Tryz.prog.mapsRec ·)))=true:=by kernel_rfl
theorem QM:((Rows.mothStateRow.ifaces == (Tryz.f3.params.toList++Rows.mothStateSpec.plain.varTypes Tryz.prog).any (Tryz.prog.ifacesRec ·)))=true:=by kernel_rfl
theorem QL:((Rows.mothStateRow.mapsOut == Tryz.prog.mapsAmong Tryz.f3.resultTypes.toList))=true:=by kernel_rfl
theorem QK:((Rows.mothStateRow.loops == (Tryz.f3.params.toList++Rows.mothStateSpec.plain.varTypes Tryz.prog).any (Tryz.prog.loopsFrom ·)))=true:=by kernel_rfl
theorem QJ:((Rows.mothStateRow.wideKeys == (Tryz.f3.params.toList++Rows.mothStateSpec.plain.varTypes Tryz.prog++Tryz.f3.resultTypes.toList).any (Tryz.prog.wideKeysFrom ·)))=true:=by kernel_rfl
theorem QI:(Rows.mothStateSpec.vars.all (Tryz.prog.varReadable ·))=true:=by kernel_rfl
theorem QH:(Tryz.f3.resultTypes.all (λt=>Tryz.prog.readableRec t && decide (t < Tryz.prog.types.size)))=true:=by kernel_rfl
theorem QG:((Rows.mothStateRow.ifacesOut == Tryz.f3.resultTypes.toList.any (Tryz.prog.ifacesRec ·)))=true:=by kernel_rfl
theorem QF:((Rows.mothStateRow.loopsOut == Tryz.f3.resultTypes.toList.any (Tryz.prog.loopsFrom ·)))=true:=by kernel_rfl
theorem QE:((Rows.mothStateRow.plainKeys == Tryz.prog.plainKeys))=true:=by kernel_rfl
theorem QD:(Rows.mothStateRow.shortTexts.isNone)=true:=by kernel_rfl
theorem QC:(Tryz.prog.stopsHeard)=true:=by kernel_rfl
theorem QB:(Tryz.prog.mayEnter)=true:=by kernel_rfl
theorem QA:((Rows.mothStateRow.lifted == Tryz.prog.liftsFinal))=true:=by kernel_rfl
theorem Qz:((Tryz.prog.make == some Rows.mothStateRow.make))=true:=by kernel_rfl
theorem Qy:((Rows.mothStateRow.pinned == Rows.mothStateRow.pinnedBy))=true:=by kernel_rfl
theorem Qx:((Rows.mothStateRow.veiled == (Tryz.f3.params.toList++Rows.mothStateSpec.plain.varTypes Tryz.prog++Tryz.f3.resultTypes.toList).any (Tryz.prog.veiledRec ·)))=true:=by kernel_rfl
theorem Qw:(Rows.mothStateRow.veiledFits Tryz.prog Tryz.f3.params.toList (Tryz.f3.params.toList++Rows.mothStateSpec.plain.varTypes Tryz.prog++Tryz.f3.resultTypes.toList))=true:=by kernel_rfl
