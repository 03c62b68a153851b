import Derived.Test.YtddkbkkogpolaaaGreatProg
import Derived.Test.YtddkbkkogpolaaaGreatRows
import Derived.Conc.Holds
open Nat
open List hiding mem_of_getElem?
open Array hiding mem_of_getElem? mk
set_option linter.unusedVariables false
set_option linter.unusedSimpArgs false
namespace Go.Proofs.YtddkbkkogpolaaaGreat
open Go Go.Proofs
theorem UF:(Rows.mothWrongRow.wf (OpenSpec.ofChange Rows.mothWrongSpec))=true:=by kernel_rfl
theorem UE:(laidOutB Tryz.prog)=true:=by kernel_rfl
theorem UD:(mapsRowed Tryz.prog)=true:=by kernel_rfl
theorem UC:(Tryz.f6.params.all (Tryz.prog.readableRec ·))=true:=by kernel_rfl
theorem UB:(namedTie Tryz.prog Rows.mothWrongRow.named Rows.mothWrongSpec.vars)=true:=by kernel_rfl
theorem UA:((Rows.mothWrongRow.stops == []))=true:=by kernel_rfl
theorem Uz:((Tryz.prog.stops == []))=true:=by kernel_rfl
theorem Uy:((Rows.mothWrongRow.knobs == []))=true:=by kernel_rfl
theorem Ux:((Tryz.prog.stopKnobs == []))=true:=by kernel_rfl
theorem Uw:((Rows.mothWrongRow.inPlace == Tryz.prog.inPlace (6:FuncId)))=true:=by kernel_rfl
theorem R2:((Rows.mothWrongRow.unfollowed == Tryz.prog.unfollowed (6:FuncId)))=true:=by kernel_rfl
theorem RZ:((Rows.mothWrongRow.recurses == Tryz.prog.recurses (6:FuncId)))=true:=by kernel_rfl
theorem RY:((Rows.mothWrongRow.named == Tryz.prog.varsNamed (6:FuncId)))=true:=by kernel_rfl
theorem RX:((Rows.mothWrongRow.maps == (Tryz.f6.params.toList++Rows.mothWrongSpec.plain.varTypes Tryz.prog).any (Tryz.prog.mapsRec ·)))=true:=by kernel_rfl
theorem RV:((Rows.mothWrongRow.ifaces == (Tryz.f6.params.toList++Rows.mothWrongSpec.plain.varTypes Tryz.prog).any (Tryz.prog.ifacesRec ·)))=true:=by kernel_rfl
theorem RU:((Rows.mothWrongRow.mapsOut == Tryz.prog.mapsAmong Tryz.f6.resultTypes.toList))=true:=by kernel_rfl
theorem RS:((Rows.mothWrongRow.loops == (Tryz.f6.params.toList++Rows.mothWrongSpec.plain.varTypes Tryz.prog).any (Tryz.prog.loopsFrom ·)))=true:=by kernel_rfl
theorem RR:((Rows.mothWrongRow.wideKeys == (Tryz.f6.params.toList++Rows.mothWrongSpec.plain.varTypes Tryz.prog++Tryz.f6.resultTypes.toList).any (Tryz.prog.wideKeysFrom ·)))=true:=by kernel_rfl
theorem RQ:(Rows.mothWrongSpec.vars.all (Tryz.prog.varReadable ·))=true:=by kernel_rfl
theorem RP:(Tryz.f6.resultTypes.all (λt=>Tryz.prog.readableRec t && decide (t < Tryz.prog.types.size)))=true:=by kernel_rfl
theorem RO:((Rows.mothWrongRow.ifacesOut == Tryz.f6.resultTypes.toList.any (Tryz.prog.ifacesRec ·)))=true:=by kernel_rfl
theorem RN:((Rows.mothWrongRow.loopsOut == Tryz.f6.resultTypes.toList.any (Tryz.prog.loopsFrom ·)))=true:=by kernel_rfl
theorem RL:((Rows.mothWrongRow.plainKeys == Tryz.prog.plainKeys))=true:=by kernel_rfl
theorem RJ:(Rows.mothWrongRow.shortTexts.isNone)=true:=by kernel_rfl
theorem RI:(Tryz.prog.stopsHeard)=true:=by kernel_rfl
theorem RH:(Tryz.prog.mayEnter)=true:=by kernel_rfl
theorem RG:((Rows.mothWrongRow.lifted == Tryz.prog.liftsFinal))=true:=by kernel_rfl
theorem RF:((Tryz.prog.make == some Rows.mothWrongRow.make))=true:=by kernel_rfl
theorem RE:((Rows.mothWrongRow.pinned == Rows.mothWrongRow.pinnedBy))=true:=by kernel_rfl
theorem RD:((Rows.mothWrongRow.veiled == (Tryz.f6.params.toList++Rows.mothWrongSpec.plain.varTypes Tryz.prog++Tryz.f6.resultTypes.toList).any (Tryz.prog.veiledRec ·)))=true:=by kernel_rfl
theorem RB:(Rows.mothWrongRow.veiledFits Tryz.prog Tryz.f6.params.toList (Tryz.f6.params.toList++Rows.mothWrongSpec.plain.varTypes Tryz.prog++Tryz.f6.resultTypes.toList))=true:=by kernel_rfl
