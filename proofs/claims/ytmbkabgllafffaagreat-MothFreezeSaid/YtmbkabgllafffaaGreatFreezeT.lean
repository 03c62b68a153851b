import Derived.Test.YtmbkabgllafffaaGreatProg
import Derived.Test.YtmbkabgllafffaaGreatRows
import Derived.Conc.Holds
open Nat
open List hiding mem_of_getElem?
open Array hiding mem_of_getElem? mk
set_option linter.unusedVariables false
set_option linter.unusedSimpArgs false
namespace Go.Proofs.YtmbkabgllafffaaGreat
open Go Go.Proofs
theorem TX:(Rows.mothFreezeRow.wf (OpenSpec.ofChange Rows.mothFreezeSpec))=true:=by kernel_rfl
theorem TW:(laidOutB Tryz.prog)=true:=by kernel_rfl
theorem TV:(mapsRowed Tryz.prog)=true:=by kernel_rfl
theorem TU:(Tryz.f3.params.all (Tryz.prog.readableRec ·))=true:=by kernel_rfl
theorem TS:(namedTie Tryz.prog Rows.mothFreezeRow.named Rows.mothFreezeSpec.vars)=true:=by kernel_rfl
theorem TR:((Rows.mothFreezeRow.stops == []))=true:=by kernel_rfl
theorem TP:((Tryz.prog.stops == []))=true:=by kernel_rfl
theorem TO:((Rows.mothFreezeRow.knobs == []))=true:=by kernel_rfl
theorem TN:((Tryz.prog.stopKnobs == []))=true:=by kernel_rfl
theorem TM:((Rows.mothFreezeRow.inPlace == Tryz.prog.inPlace (3:FuncId)))=true:=by kernel_rfl
theorem Rn:((Rows.mothFreezeRow.unfollowed == Tryz.prog.unfollowed (3:FuncId)))=true:=by kernel_rfl
theorem Rm:((Rows.mothFreezeRow.recurses == Tryz.prog.recurses (3:FuncId)))=true:=by kernel_rfl
theorem Rj:((Rows.mothFreezeRow.named == Tryz.prog.varsNamed (3:FuncId)))=true:=by kernel_rfl
theorem Ri:((Rows.mothFreezeRow.maps == (Tryz.f3.params.toList++Rows.mothFreezeSpec.plain.varTypes Tryz.prog).any (Tryz.prog.mapsRec ·)))=true:=by kernel_rfl
theorem Rh:((Rows.mothFreezeRow.ifaces == (Tryz.f3.params.toList++Rows.mothFreezeSpec.plain.varTypes Tryz.prog).any (Tryz.prog.ifacesRec ·)))=true:=by kernel_rfl
theorem Rf:((Rows.mothFreezeRow.mapsOut == Tryz.prog.mapsAmong Tryz.f3.resultTypes.toList))=true:=by kernel_rfl
theorem Re:((Rows.mothFreezeRow.loops == (Tryz.f3.params.toList++Rows.mothFreezeSpec.plain.varTypes Tryz.prog).any (Tryz.prog.loopsFrom ·)))=true:=by kernel_rfl
theorem Rb:((Rows.mothFreezeRow.wideKeys == (Tryz.f3.params.toList++Rows.mothFreezeSpec.plain.varTypes Tryz.prog++Tryz.f3.resultTypes.toList).any (Tryz.prog.wideKeysFrom ·)))=true:=by kernel_rfl
theorem Q9:(Rows.mothFreezeSpec.vars.all (Tryz.prog.varReadable ·))=true:=by kernel_rfl
theorem Q8:(Tryz.f3.resultTypes.all (λt=>Tryz.prog.readableRec t && decide (t < Tryz.prog.types.size)))=true:=by kernel_rfl
theorem Q7:((Rows.mothFreezeRow.ifacesOut == Tryz.f3.resultTypes.toList.any (Tryz.prog.ifacesRec ·)))=true:=by kernel_rfl
theorem Q6:((Rows.mothFreezeRow.loopsOut == Tryz.f3.resultTypes.toList.any (Tryz.prog.loopsFrom ·)))=true:=by kernel_rfl
theorem Q5:((Rows.mothFreezeRow.plainKeys == Tryz.prog.plainKeys))=true:=by kernel_rfl
theorem Q4:(Rows.mothFreezeRow.shortTexts.isNone)=true:=by kernel_rfl
theorem Q3:(Tryz.prog.stopsHeard)=true:=by kernel_rfl
theorem Q2:(Tryz.prog.mayEnter)=true:=by kernel_rfl
theorem Q1:((Rows.mothFreezeRow.lifted == Tryz.prog.liftsFinal))=true:=by kernel_rfl
theorem Q0:((Tryz.prog.make == some Rows.mothFreezeRow.make))=true:=by kernel_rfl
theorem QZ:((Rows.mothFreezeRow.pinned == Rows.mothFreezeRow.pinnedBy))=true:=by kernel_rfl
theorem QY:((Rows.mothFreezeRow.veiled == (Tryz.f3.params.toList++Rows.mothFreezeSpec.plain.varTypes Tryz.prog++Tryz.f3.resultTypes.toList).any (Tryz.prog.veiledRec ·)))=true:=by kernel_rfl
theorem QX:(Rows.mothFreezeRow.veiledFits Tryz.prog Tryz.f3.params.toList (Tryz.f3.params.toList++Rows.mothFreezeSpec.plain.varTypes Tryz.prog++Tryz.f3.resultTypes.toList))=true:=by kernel_rfl
