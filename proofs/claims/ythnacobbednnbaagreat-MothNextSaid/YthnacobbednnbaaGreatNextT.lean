import Derived.Test.YthnacobbednnbaaGreatProg
import Derived.Test.YthnacobbednnbaaGreatRows
import Derived.Conc.Holds
open Nat
open List hiding mem_of_getElem?
open Array hiding mem_of_getElem? mk
set_option linter.unusedVariables false
set_option linter.unusedSimpArgs false
namespace Go.Proofs.YthnacobbednnbaaGreat
open Go Go.Proofs
theorem SC:(Rows.mothNextRow.wf (OpenSpec.ofChange Rows.mothNextSpec))=true:=by kernel_rfl
theorem SB:(laidOutB Tryz.prog)=true:=by kernel_rfl
theorem SA:(mapsRowed Tryz.prog)=true:=by kernel_rfl
theorem Sz:(Tryz.f5.params.all (Tryz.prog.readableRec ·))=true:=by kernel_rfl
theorem Sr:(namedTie Tryz.prog Rows.mothNextRow.named Rows.mothNextSpec.vars)=true:=by kernel_rfl
theorem Sl:((Rows.mothNextRow.stops == []))=true:=by kernel_rfl
theorem Sj:((Tryz.prog.stops == []))=true:=by kernel_rfl
theorem Si:((Rows.mothNextRow.knobs == []))=true:=by kernel_rfl
theorem R9:((Tryz.prog.stopKnobs == []))=true:=by kernel_rfl
theorem R7:((Rows.mothNextRow.inPlace == Tryz.prog.inPlace (5:FuncId)))=true:=by kernel_rfl
theorem Qn:((Rows.mothNextRow.unfollowed == Tryz.prog.unfollowed (5:FuncId)))=true:=by kernel_rfl
theorem Qm:((Rows.mothNextRow.recurses == Tryz.prog.recurses (5:FuncId)))=true:=by kernel_rfl
theorem Ql:((Rows.mothNextRow.named == Tryz.prog.varsNamed (5:FuncId)))=true:=by kernel_rfl
theorem Qk:((Rows.mothNextRow.maps == (Tryz.f5.params.toList++Rows.mothNextSpec.plain.varTypes Tryz.prog).any (Tryz.prog.mapsRec ·)))=true:=by kernel_rfl
theorem Qj:((Rows.mothNextRow.ifaces == (Tryz.f5.params.toList++Rows.mothNextSpec.plain.varTypes Tryz.prog).any (Tryz.prog.ifacesRec ·)))=true:=by kernel_rfl
theorem Qi:((Rows.mothNextRow.mapsOut == Tryz.prog.mapsAmong Tryz.f5.resultTypes.toList))=true:=by kernel_rfl
theorem Qh:((Rows.mothNextRow.loops == (Tryz.f5.params.toList++Rows.mothNextSpec.plain.varTypes Tryz.prog).any (Tryz.prog.loopsFrom ·)))=true:=by kernel_rfl
theorem Qg:((Rows.mothNextRow.wideKeys == (Tryz.f5.params.toList++Rows.mothNextSpec.plain.varTypes Tryz.prog++Tryz.f5.resultTypes.toList).any (Tryz.prog.wideKeysFrom ·)))=true:=by kernel_rfl
theorem Qf:(Rows.mothNextSpec.vars.all (Tryz.prog.varReadable ·))=true:=by kernel_rfl
theorem Qe:(Tryz.f5.resultTypes.all (λt=>Tryz.prog.readableRec t && decide (t < Tryz.prog.types.size)))=true:=by kernel_rfl
theorem Qd:((Rows.mothNextRow.ifacesOut == Tryz.f5.resultTypes.toList.any (Tryz.prog.ifacesRec ·)))=true:=by kernel_rfl
theorem Qc:((Rows.mothNextRow.loopsOut == Tryz.f5.resultTypes.toList.any (Tryz.prog.loopsFrom ·)))=true:=by kernel_rfl
theorem Qb:((Rows.mothNextRow.plainKeys == Tryz.prog.plainKeys))=true:=by kernel_rfl
theorem Qa:(Rows.mothNextRow.shortTexts.isNone)=true:=by kernel_rfl
theorem P9:(Tryz.prog.stopsHeard)=true:=by kernel_rfl
theorem P8:(Tryz.prog.mayEnter)=true:=by kernel_rfl
theorem P7:((Rows.mothNextRow.lifted == Tryz.prog.liftsFinal))=true:=by kernel_rfl
theorem P6:((Tryz.prog.make == some Rows.mothNextRow.make))=true:=by kernel_rfl
theorem P5:((Rows.mothNextRow.pinned == Rows.mothNextRow.pinnedBy))=true:=by kernel_rfl
theorem P4:((Rows.mothNextRow.veiled == (Tryz.f5.params.toList++Rows.mothNextSpec.plain.varTypes Tryz.prog++Tryz.f5.resultTypes.toList).any (Tryz.prog.veiledRec ·)))=true:=by kernel_rfl
theorem P3:(Rows.mothNextRow.veiledFits Tryz.prog Tryz.f5.params.toList (Tryz.f5.params.toList++Rows.mothNextSpec.plain.varTypes Tryz.prog++Tryz.f5.resultTypes.toList))=true:=by kernel_rfl
