import Derived.Test.YtddkbkkogpolaaaGreatProg
import Derived.Test.YtddkbkkogpolaaaGreatRows
import Derived.Conc.Holds
open Nat
open List hiding mem_of_getElem?
open Array hiding mem_of_getElem? mk
set_option linter.unusedVariables false
set_option linter.unusedSimpArgs false
namespace Go.Proofs.YtddkbkkogpolaaaGreat
open Go Go.Proofs
theorem SR:(Rows.mothMoreRow.wf (OpenSpec.ofChange Rows.mothMoreSpec))=true:=by kernel_rfl
theorem SQ:(laidOutB Tryz.prog)=true:=by kernel_rfl
theorem SO:(mapsRowed Tryz.prog)=true:=by kernel_rfl
theorem SN:(Tryz.f4.params.all (Tryz.prog.readableRec ·))=true:=by kernel_rfl
theorem SL:(namedTie Tryz.prog Rows.mothMoreRow.named Rows.mothMoreSpec.vars)=true:=by kernel_rfl
theorem SK:((Rows.mothMoreRow.stops == []))=true:=by kernel_rfl
theorem SJ:((Tryz.prog.stops == []))=true:=by kernel_rfl
theorem SI:((Rows.mothMoreRow.knobs == []))=true:=by kernel_rfl
theorem SH:((Tryz.prog.stopKnobs == []))=true:=by kernel_rfl
theorem SG:((Rows.mothMoreRow.inPlace == Tryz.prog.inPlace (4:FuncId)))=true:=by kernel_rfl
theorem QD:((Rows.mothMoreRow.unfollowed == Tryz.prog.unfollowed (4:FuncId)))=true:=by kernel_rfl
theorem QC:((Rows.mothMoreRow.recurses == Tryz.prog.recurses (4:FuncId)))=true:=by kernel_rfl
theorem QB:((Rows.mothMoreRow.named == Tryz.prog.varsNamed (4:FuncId)))=true:=by kernel_rfl
theorem QA:((Rows.mothMoreRow.maps == (Tryz.f4.params.toList++Rows.mothMoreSpec.plain.varTypes Tryz.prog).any (Tryz.prog.mapsRec ·)))=true:=by kernel_rfl
theorem Qz:((Rows.mothMoreRow.ifaces == (Tryz.f4.params.toList++Rows.mothMoreSpec.plain.varTypes Tryz.prog).any (Tryz.prog.ifacesRec ·)))=true:=by kernel_rfl
theorem Qy:((Rows.mothMoreRow.mapsOut == Tryz.prog.mapsAmong Tryz.f4.resultTypes.toList))=true:=by kernel_rfl
theorem Qx:((Rows.mothMoreRow.loops == (Tryz.f4.params.toList++Rows.mothMoreSpec.plain.varTypes Tryz.prog).any (Tryz.prog.loopsFrom ·)))=true:=by kernel_rfl
theorem Qw:((Rows.mothMoreRow.wideKeys == (Tryz.f4.params.toList++Rows.mothMoreSpec.plain.varTypes Tryz.prog++Tryz.f4.resultTypes.toList).any (Tryz.prog.wideKeysFrom ·)))=true:=by kernel_rfl
theorem Qv:(Rows.mothMoreSpec.vars.all (Tryz.prog.varReadable ·))=true:=by kernel_rfl
theorem Qu:(Tryz.f4.resultTypes.all (λt=>Tryz.prog.readableRec t && decide (t < Tryz.prog.types.size)))=true:=by kernel_rfl
theorem Qs:((Rows.mothMoreRow.ifacesOut == Tryz.f4.resultTypes.toList.any (Tryz.prog.ifacesRec ·)))=true:=by kernel_rfl
theorem Qq:((Rows.mothMoreRow.loopsOut == Tryz.f4.resultTypes.toList.any (Tryz.prog.loopsFrom ·)))=true:=by kernel_rfl
theorem Qp:((Rows.mothMoreRow.plainKeys == Tryz.prog.plainKeys))=true:=by kernel_rfl
theorem Qo:(Rows.mothMoreRow.shortTexts.isNone)=true:=by kernel_rfl
theorem Qn:(Tryz.prog.stopsHeard)=true:=by kernel_rfl
theorem Qm:(Tryz.prog.mayEnter)=true:=by kernel_rfl
theorem Ql:((Rows.mothMoreRow.lifted == Tryz.prog.liftsFinal))=true:=by kernel_rfl
theorem Qk:((Tryz.prog.make == some Rows.mothMoreRow.make))=true:=by kernel_rfl
theorem Qj:((Rows.mothMoreRow.pinned == Rows.mothMoreRow.pinnedBy))=true:=by kernel_rfl
theorem Qi:((Rows.mothMoreRow.veiled == (Tryz.f4.params.toList++Rows.mothMoreSpec.plain.varTypes Tryz.prog++Tryz.f4.resultTypes.toList).any (Tryz.prog.veiledRec ·)))=true:=by kernel_rfl
theorem Qh:(Rows.mothMoreRow.veiledFits Tryz.prog Tryz.f4.params.toList (Tryz.f4.params.toList++Rows.mothMoreSpec.plain.varTypes Tryz.prog++Tryz.f4.resultTypes.toList))=true:=by kernel_rfl
