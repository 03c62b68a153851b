import Derived.Test.YthnacobbednnbaaGreatProg
import Derived.Test.YthnacobbednnbaaGreatRows
import Derived.Conc.Holds
open Nat
open List hiding mem_of_getElem?
open Array hiding mem_of_getElem? mk
set_option linter.unusedVariables false
set_option linter.unusedSimpArgs false
namespace Go.Proofs.YthnacobbednnbaaGreat
open Go Go.Proofs
theorem UN:(Rows.mothNextsRow.wf (OpenSpec.ofChange Rows.mothNextsSpec))=true:=by kernel_rfl
theorem UM:(laidOutB Tryz.prog)=true:=by kernel_rfl
theorem UL:(mapsRowed Tryz.prog)=true:=by kernel_rfl
theorem UK:(Tryz.f4.params.all (Tryz.prog.readableRec ·))=true:=by kernel_rfl
theorem UJ:(namedTie Tryz.prog Rows.mothNextsRow.named Rows.mothNextsSpec.vars)=true:=by kernel_rfl
theorem UI:((Rows.mothNextsRow.stops == []))=true:=by kernel_rfl
theorem UH:((Tryz.prog.stops == []))=true:=by kernel_rfl
theorem UG:((Rows.mothNextsRow.knobs == []))=true:=by kernel_rfl
theorem UF:((Tryz.prog.stopKnobs == []))=true:=by kernel_rfl
theorem UE:((Rows.mothNextsRow.inPlace == Tryz.prog.inPlace (4:FuncId)))=true:=by kernel_rfl
theorem R9:((Rows.mothNextsRow.unfollowed == Tryz.prog.unfollowed (4:FuncId)))=true:=by kernel_rfl
theorem R7:((Rows.mothNextsRow.recurses == Tryz.prog.recurses (4:FuncId)))=true:=by kernel_rfl
theorem R2:((Rows.mothNextsRow.named == Tryz.prog.varsNamed (4:FuncId)))=true:=by kernel_rfl
theorem RZ:((Rows.mothNextsRow.maps == (Tryz.f4.params.toList++Rows.mothNextsSpec.plain.varTypes Tryz.prog).any (Tryz.prog.mapsRec ·)))=true:=by kernel_rfl
theorem RY:((Rows.mothNextsRow.ifaces == (Tryz.f4.params.toList++Rows.mothNextsSpec.plain.varTypes Tryz.prog).any (Tryz.prog.ifacesRec ·)))=true:=by kernel_rfl
theorem RX:((Rows.mothNextsRow.mapsOut == Tryz.prog.mapsAmong Tryz.f4.resultTypes.toList))=true:=by kernel_rfl
theorem RV:((Rows.mothNextsRow.loops == (Tryz.f4.params.toList++Rows.mothNextsSpec.plain.varTypes Tryz.prog).any (Tryz.prog.loopsFrom ·)))=true:=by kernel_rfl
theorem RU:((Rows.mothNextsRow.wideKeys == (Tryz.f4.params.toList++Rows.mothNextsSpec.plain.varTypes Tryz.prog++Tryz.f4.resultTypes.toList).any (Tryz.prog.wideKeysFrom ·)))=true:=by kernel_rfl
theorem RS:(Rows.mothNextsSpec.vars.all (Tryz.prog.varReadable ·))=true:=by kernel_rfl
theorem RR:(Tryz.f4.resultTypes.all (λt=>Tryz.prog.readableRec t && decide (t < Tryz.prog.types.size)))=true:=by kernel_rfl
theorem RQ:((Rows.mothNextsRow.ifacesOut == Tryz.f4.resultTypes.toList.any (Tryz.prog.ifacesRec ·)))=true:=by kernel_rfl
theorem RP:((Rows.mothNextsRow.loopsOut == Tryz.f4.resultTypes.toList.any (Tryz.prog.loopsFrom ·)))=true:=by kernel_rfl
theorem RO:((Rows.mothNextsRow.plainKeys == Tryz.prog.plainKeys))=true:=by kernel_rfl
theorem RN:(Rows.mothNextsRow.shortTexts.isNone)=true:=by kernel_rfl
theorem RL:(Tryz.prog.stopsHeard)=true:=by kernel_rfl
theorem RJ:(Tryz.prog.mayEnter)=true:=by kernel_rfl
theorem RI:((Rows.mothNextsRow.lifted == Tryz.prog.liftsFinal))=true:=by kernel_rfl
theorem RH:((Tryz.prog.make == some Rows.mothNextsRow.make))=true:=by kernel_rfl
theorem RG:((Rows.mothNextsRow.pinned == Rows.mothNextsRow.pinnedBy))=true:=by kernel_rfl
theorem RF:((Rows.mothNextsRow.veiled == (Tryz.f4.params.toList++Rows.mothNextsSpec.plain.varTypes Tryz.prog++Tryz.f4.resultTypes.toList).any (Tryz.prog.veiledRec ·)))=true:=by kernel_rfl
theorem RE:(Rows.mothNextsRow.veiledFits Tryz.prog Tryz.f4.params.toList (Tryz.f4.params.toList++Rows.mothNextsSpec.plain.varTypes Tryz.prog++Tryz.f4.resultTypes.toList))=true:=by kernel_rfl
