import Derived.Test.YthnacobbednnbaaGreatProg
import Derived.Test.YthnacobbednnbaaGreatRows
import Derived.Conc.Holds
open Nat
open List hiding mem_of_getElem?
open Array hiding mem_of_getElem? mk
set_option linter.unusedVariables false
set_option linter.unusedSimpArgs false
namespace Go.Proofs.YthnacobbednnbaaGreat
open Go Go.Proofs
theorem UX:(Rows.mothBeginsRow.wf (OpenSpec.ofChange Rows.mothBeginsSpec))=true:=by kernel_rfl
theorem UW:(laidOutB Tryz.prog)=true:=by kernel_rfl
theorem UV:(mapsRowed Tryz.prog)=true:=by kernel_rfl
theorem UU:(Tryz.f6.params.all (Tryz.prog.readableRec ·))=true:=by kernel_rfl
theorem UT:(namedTie Tryz.prog Rows.mothBeginsRow.named Rows.mothBeginsSpec.vars)=true:=by kernel_rfl
theorem US:((Rows.mothBeginsRow.stops == []))=true:=by kernel_rfl
theorem UR:((Tryz.prog.stops == []))=true:=by kernel_rfl
theorem UQ:((Rows.mothBeginsRow.knobs == []))=true:=by kernel_rfl
theorem UP:((Tryz.prog.stopKnobs == []))=true:=by kernel_rfl
theorem UO:((Rows.mothBeginsRow.inPlace == Tryz.prog.inPlace (6:FuncId)))=true:=by kernel_rfl
theorem SD:((Rows.mothBeginsRow.unfollowed == Tryz.prog.unfollowed (6:FuncId)))=true:=by kernel_rfl
theorem SC:((Rows.mothBeginsRow.recurses == Tryz.prog.recurses (6:FuncId)))=true:=by kernel_rfl
theorem SB:((Rows.mothBeginsRow.named == Tryz.prog.varsNamed (6:FuncId)))=true:=by kernel_rfl
theorem SA:((Rows.mothBeginsRow.maps == (Tryz.f6.params.toList++Rows.mothBeginsSpec.plain.varTypes Tryz.prog).any (Tryz.prog.mapsRec ·)))=true:=by kernel_rfl
theorem Sz:((Rows.mothBeginsRow.ifaces == (Tryz.f6.params.toList++Rows.mothBeginsSpec.plain.varTypes Tryz.prog).any (Tryz.prog.ifacesRec ·)))=true:=by kernel_rfl
theorem Sr:((Rows.mothBeginsRow.mapsOut == Tryz.prog.mapsAmong Tryz.f6.resultTypes.toList))=true:=by kernel_rfl
theorem Sl:((Rows.mothBeginsRow.loops == (Tryz.f6.params.toList++Rows.mothBeginsSpec.plain.varTypes Tryz.prog).any (Tryz.prog.loopsFrom ·)))=true:=by kernel_rfl
theorem Sj:((Rows.mothBeginsRow.wideKeys == (Tryz.f6.params.toList++Rows.mothBeginsSpec.plain.varTypes Tryz.prog++Tryz.f6.resultTypes.toList).any (Tryz.prog.wideKeysFrom ·)))=true:=by kernel_rfl
theorem Si:(Rows.mothBeginsSpec.vars.all (Tryz.prog.varReadable ·))=true:=by kernel_rfl
theorem R9:(Tryz.f6.resultTypes.all (λt=>Tryz.prog.readableRec t && decide (t < Tryz.prog.types.size)))=true:=by kernel_rfl
theorem R7:((Rows.mothBeginsRow.ifacesOut == Tryz.f6.resultTypes.toList.any (Tryz.prog.ifacesRec ·)))=true:=by kernel_rfl
theorem R2:((Rows.mothBeginsRow.loopsOut == Tryz.f6.resultTypes.toList.any (Tryz.prog.loopsFrom ·)))=true:=by kernel_rfl
theorem RZ:((Rows.mothBeginsRow.plainKeys == Tryz.prog.plainKeys))=true:=by kernel_rfl
theorem RY:(Rows.mothBeginsRow.shortTexts.isNone)=true:=by kernel_rfl
theorem RX:(Tryz.prog.stopsHeard)=true:=by kernel_rfl
theorem RV:(Tryz.prog.mayEnter)=true:=by kernel_rfl
theorem RU:((Rows.mothBeginsRow.lifted == Tryz.prog.liftsFinal))=true:=by kernel_rfl
theorem RS:((Tryz.prog.make == some Rows.mothBeginsRow.make))=true:=by kernel_rfl
theorem RR:((Rows.mothBeginsRow.pinned == Rows.mothBeginsRow.pinnedBy))=true:=by kernel_rfl
theorem RQ:((Rows.mothBeginsRow.veiled == (Tryz.f6.params.toList++Rows.mothBeginsSpec.plain.varTypes Tryz.prog++Tryz.f6.resultTypes.toList).any (Tryz.prog.veiledRec ·)))=true:=by kernel_rfl
theorem RP:(Rows.mothBeginsRow.veiledFits Tryz.prog Tryz.f6.params.toList (Tryz.f6.params.toList++Rows.mothBeginsSpec.plain.varTypes Tryz.prog++Tryz.f6.resultTypes.toList))=true:=by kernel_rfl
