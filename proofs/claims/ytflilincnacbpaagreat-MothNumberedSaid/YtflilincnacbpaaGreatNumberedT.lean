import Derived.Test.YtflilincnacbpaaGreatProg
import Derived.Test.YtflilincnacbpaaGreatRows
import Derived.Conc.Holds
open Nat
open List hiding mem_of_getElem?
open Array hiding mem_of_getElem? mk
set_option linter.unusedVariables false
set_option linter.unusedSimpArgs false
namespace Go.Proofs.YtflilincnacbpaaGreat
open Go Go.Proofs
theorem Uk:(Rows.mothNumberedRow.wf (OpenSpec.ofChange Rows.mothNumberedSpec))=true:=by kernel_rfl
theorem Uj:(laidOutB Tryz.prog)=true:=by kernel_rfl
theorem Ui:(mapsRowed Tryz.prog)=true:=by kernel_rfl
theorem Uh:(Tryz.f3.params.all (Tryz.prog.readableRec ·))=true:=by kernel_rfl
theorem Ug:(namedTie Tryz.prog Rows.mothNumberedRow.named Rows.mothNumberedSpec.vars)=true:=by kernel_rfl
theorem Uf:((Rows.mothNumberedRow.stops == []))=true:=by kernel_rfl
theorem Ue:((Tryz.prog.stops == []))=true:=by kernel_rfl
theorem Ud:((Rows.mothNumberedRow.knobs == []))=true:=by kernel_rfl
theorem Uc:((Tryz.prog.stopKnobs == []))=true:=by kernel_rfl
theorem Ub:((Rows.mothNumberedRow.inPlace == Tryz.prog.inPlace (3:FuncId)))=true:=by kernel_rfl
theorem RN:((Rows.mothNumberedRow.unfollowed == Tryz.prog.unfollowed (3:FuncId)))=true:=by kernel_rfl
theorem RL:((Rows.mothNumberedRow.recurses == Tryz.prog.recurses (3:FuncId)))=true:=by kernel_rfl
theorem RJ:((Rows.mothNumberedRow.named == Tryz.prog.varsNamed (3:FuncId)))=true:=by kernel_rfl
theorem RI:((Rows.mothNumberedRow.maps == (Tryz.f3.params.toList++Rows.mothNumberedSpec.plain.varTypes Tryz.prog).any (Tryz.prog.mapsRec ·)))=true:=by kernel_rfl
theorem RH:((Rows.mothNumberedRow.ifaces == (Tryz.f3.params.toList++Rows.mothNumberedSpec.plain.varTypes Tryz.prog).any (Tryz.prog.ifacesRec ·)))=true:=by kernel_rfl
theorem RG:((Rows.mothNumberedRow.mapsOut == Tryz.prog.mapsAmong Tryz.f3.resultTypes.toList))=true:=by kernel_rfl
theorem RF:((Rows.mothNumberedRow.loops == (Tryz.f3.params.toList++Rows.mothNumberedSpec.plain.varTypes Tryz.prog).any (Tryz.prog.loopsFrom ·)))=true:=by kernel_rfl
theorem RE:((Rows.mothNumberedRow.wideKeys == (Tryz.f3.params.toList++Rows.mothNumberedSpec.plain.varTypes Tryz.prog++Tryz.f3.resultTypes.toList).any (Tryz.prog.wideKeysFrom ·)))=true:=by kernel_rfl
theorem RD:(Rows.mothNumberedSpec.vars.all (Tryz.prog.varReadable ·))=true:=by kernel_rfl
theorem RB:(Tryz.f3.resultTypes.all (λt=>Tryz.prog.readableRec t && decide (t < Tryz.prog.types.size)))=true:=by kernel_rfl
theorem Rz:((Rows.mothNumberedRow.ifacesOut == Tryz.f3.resultTypes.toList.any (Tryz.prog.ifacesRec ·)))=true:=by kernel_rfl
theorem Ry:((Rows.mothNumberedRow.loopsOut == Tryz.f3.resultTypes.toList.any (Tryz.prog.loopsFrom ·)))=true:=by kernel_rfl
theorem Rx:((Rows.mothNumberedRow.plainKeys == Tryz.prog.plainKeys))=true:=by kernel_rfl
theorem Rw:(Rows.mothNumberedRow.shortTexts.isNone)=true:=by kernel_rfl
theorem Ru:(Tryz.prog.stopsHeard)=true:=by kernel_rfl
theorem Rt:(Tryz.prog.mayEnter)=true:=by kernel_rfl
theorem Rr:((Rows.mothNumberedRow.lifted == Tryz.prog.liftsFinal))=true:=by kernel_rfl
theorem Rq:((Tryz.prog.make == some Rows.mothNumberedRow.make))=true:=by kernel_rfl
theorem Ro:((Rows.mothNumberedRow.pinned == Rows.mothNumberedRow.pinnedBy))=true:=by kernel_rfl
theorem Rn:((Rows.mothNumberedRow.veiled == (Tryz.f3.params.toList++Rows.mothNumberedSpec.plain.varTypes Tryz.prog++Tryz.f3.resultTypes.toList).any (Tryz.prog.veiledRec ·)))=true:=by kernel_rfl
theorem Rm:(Rows.mothNumberedRow.veiledFits Tryz.prog Tryz.f3.params.toList (Tryz.f3.params.toList++Rows.mothNumberedSpec.plain.varTypes Tryz.prog++Tryz.f3.resultTypes.toList))=true:=by kernel_rfl
