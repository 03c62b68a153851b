import Derived.Test.YthnacobbednnbaaGreatProg
import Derived.Test.YthnacobbednnbaaGreatRows
import Derived.Conc.Holds
open Nat
open List hiding mem_of_getElem?
open Array hiding mem_of_getElem? mk
set_option linter.unusedVariables false
set_option linter.unusedSimpArgs false
namespace Go.Proofs.YthnacobbednnbaaGreat
open Go Go.Proofs
theorem SC:(Rows.mothAllRow.wf (OpenSpec.ofChange Rows.mothAllSpec))=true:=by kernel_rfl
theorem SB:(laidOutB Tryz.prog)=true:=by kernel_rfl
theorem SA:(mapsRowed Tryz.prog)=true:=by kernel_rfl
theorem Sz:(Tryz.f7.params.all (Tryz.prog.readableRec ·))=true:=by kernel_rfl
theorem Sr:(namedTie Tryz.prog Rows.mothAllRow.named Rows.mothAllSpec.vars)=true:=by kernel_rfl
theorem Sl:((Rows.mothAllRow.stops == []))=true:=by kernel_rfl
theorem Sj:((Tryz.prog.stops == []))=true:=by kernel_rfl
theorem Si:((Rows.mothAllRow.knobs == []))=true:=by kernel_rfl
theorem R9:((Tryz.prog.stopKnobs == []))=true:=by kernel_rfl
theorem R7:((Rows.mothAllRow.inPlace == Tryz.prog.inPlace (7:FuncId)))=true:=by kernel_rfl
theorem Qo:((Rows.mothAllRow.unfollowed == Tryz.prog.unfollowed (7:FuncId)))=true:=by kernel_rfl
theorem Qn:((Rows.mothAllRow.recurses == Tryz.prog.recurses (7:FuncId)))=true:=by kernel_rfl
theorem Qm:((Rows.mothAllRow.named == Tryz.prog.varsNamed (7:FuncId)))=true:=by kernel_rfl
theorem Ql:((Rows.mothAllRow.maps == (Tryz.f7.params.toList++Rows.mothAllSpec.plain.varTypes Tryz.prog).any (Tryz.prog.mapsRec ·)))=true:=by kernel_rfl
theorem Qk:((Rows.mothAllRow.ifaces == (Tryz.f7.params.toList++Rows.mothAllSpec.plain.varTypes Tryz.prog).any (Tryz.prog.ifacesRec ·)))=true:=by kernel_rfl
theorem Qj:((Rows.mothAllRow.mapsOut == Tryz.prog.mapsAmong Tryz.f7.resultTypes.toList))=true:=by kernel_rfl
theorem Qi:((Rows.mothAllRow.loops == (Tryz.f7.params.toList++Rows.mothAllSpec.plain.varTypes Tryz.prog).any (Tryz.prog.loopsFrom ·)))=true:=by kernel_rfl
theorem Qh:((Rows.mothAllRow.wideKeys == (Tryz.f7.params.toList++Rows.mothAllSpec.plain.varTypes Tryz.prog++Tryz.f7.resultTypes.toList).any (Tryz.prog.wideKeysFrom ·)))=true:=by kernel_rfl
theorem Qg:(Rows.mothAllSpec.vars.all (Tryz.prog.varReadable ·))=true:=by kernel_rfl
theorem Qf:(Tryz.f7.resultTypes.all (λt=>Tryz.prog.readableRec t && decide (t < Tryz.prog.types.size)))=true:=by kernel_rfl
theorem Qe:((Rows.mothAllRow.ifacesOut == Tryz.f7.resultTypes.toList.any (Tryz.prog.ifacesRec ·)))=true:=by kernel_rfl
theorem Qd:((Rows.mothAllRow.loopsOut == Tryz.f7.resultTypes.toList.any (Tryz.prog.loopsFrom ·)))=true:=by kernel_rfl
theorem Qc:((Rows.mothAllRow.plainKeys == Tryz.prog.plainKeys))=true:=by kernel_rfl
theorem Qb:(Rows.mothAllRow.shortTexts.isNone)=true:=by kernel_rfl
theorem Qa:(Tryz.prog.stopsHeard)=true:=by kernel_rfl
theorem P9:(Tryz.prog.mayEnter)=true:=by kernel_rfl
theorem P8:((Rows.mothAllRow.lifted == Tryz.prog.liftsFinal))=true:=by kernel_rfl
theorem P7:((Tryz.prog.make == some Rows.mothAllRow.make))=true:=by kernel_rfl
theorem P6:((Rows.mothAllRow.pinned == Rows.mothAllRow.pinnedBy))=true:=by kernel_rfl
theorem P5:((Rows.mothAllRow.veiled == (Tryz.f7.params.toList++Rows.mothAllSpec.plain.varTypes Tryz.prog++Tryz.f7.resultTypes.toList).any (Tryz.prog.veiledRec ·)))=true:=by kernel_rfl
theorem P4:(Rows.mothAllRow.veiledFits Tryz.prog Tryz.f7.params.toList (Tryz.f7.params.toList++Rows.mothAllSpec.plain.varTypes Tryz.prog++Tryz.f7.resultTypes.toList))=true:=by kernel_rfl
