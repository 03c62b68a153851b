import Derived.Test.YtddkbkkogpolaaaGreatProg
import Derived.Test.YtddkbkkogpolaaaGreatRows
import Derived.Conc.Holds
open Nat
open List hiding mem_of_getElem?
open Array hiding mem_of_getElem? mk
set_option linter.unusedVariables false
set_option linter.unusedSimpArgs false
namespace Go.Proofs.YtddkbkkogpolaaaGreat
open Go Go.Proofs
theorem UB:(Rows.mothTrueRow.wf (OpenSpec.ofChange Rows.mothTrueSpec))=true:=by kernel_rfl
theorem UA:(laidOutB Tryz.prog)=true:=by kernel_rfl
theorem Uz:(mapsRowed Tryz.prog)=true:=by kernel_rfl
theorem Uy:(Tryz.f8.params.all (Tryz.prog.readableRec ·))=true:=by kernel_rfl
theorem Ux:(namedTie Tryz.prog Rows.mothTrueRow.named Rows.mothTrueSpec.vars)=true:=by kernel_rfl
theorem Uw:((Rows.mothTrueRow.stops == []))=true:=by kernel_rfl
theorem Uu:((Tryz.prog.stops == []))=true:=by kernel_rfl
theorem Ut:((Rows.mothTrueRow.knobs == []))=true:=by kernel_rfl
theorem Us:((Tryz.prog.stopKnobs == []))=true:=by kernel_rfl
theorem Ur:((Rows.mothTrueRow.inPlace == Tryz.prog.inPlace (8:FuncId)))=true:=by kernel_rfl
theorem RX:((Rows.mothTrueRow.unfollowed == Tryz.prog.unfollowed (8:FuncId)))=true:=by kernel_rfl
theorem RV:((Rows.mothTrueRow.recurses == Tryz.prog.recurses (8:FuncId)))=true:=by kernel_rfl
theorem RU:((Rows.mothTrueRow.named == Tryz.prog.varsNamed (8:FuncId)))=true:=by kernel_rfl
theorem RS:((Rows.mothTrueRow.maps == (Tryz.f8.params.toList++Rows.mothTrueSpec.plain.varTypes Tryz.prog).any (Tryz.prog.mapsRec ·)))=true:=by kernel_rfl
theorem RR:((Rows.mothTrueRow.ifaces == (Tryz.f8.params.toList++Rows.mothTrueSpec.plain.varTypes Tryz.prog).any (Tryz.prog.ifacesRec ·)))=true:=by kernel_rfl
theorem RQ:((Rows.mothTrueRow.mapsOut == Tryz.prog.mapsAmong Tryz.f8.resultTypes.toList))=true:=by kernel_rfl
theorem RP:((Rows.mothTrueRow.loops == (Tryz.f8.params.toList++Rows.mothTrueSpec.plain.varTypes Tryz.prog).any (Tryz.prog.loopsFrom ·)))=true:=by kernel_rfl
theorem RO:((Rows.mothTrueRow.wideKeys == (Tryz.f8.params.toList++Rows.mothTrueSpec.plain.varTypes Tryz.prog++Tryz.f8.resultTypes.toList).any (Tryz.prog.wideKeysFrom ·)))=true:=by kernel_rfl
theorem RN:(Rows.mothTrueSpec.vars.all (Tryz.prog.varReadable ·))=true:=by kernel_rfl
theorem RL:(Tryz.f8.resultTypes.all (λt=>Tryz.prog.readableRec t && decide (t < Tryz.prog.types.size)))=true:=by kernel_rfl
theorem RJ:((Rows.mothTrueRow.ifacesOut == Tryz.f8.resultTypes.toList.any (Tryz.prog.ifacesRec ·)))=true:=by kernel_rfl
theorem RI:((Rows.mothTrueRow.loopsOut == Tryz.f8.resultTypes.toList.any (Tryz.prog.loopsFrom ·)))=true:=by kernel_rfl
theorem RH:((Rows.mothTrueRow.plainKeys == Tryz.prog.plainKeys))=true:=by kernel_rfl
theorem RG:(Rows.mothTrueRow.shortTexts.isNone)=true:=by kernel_rfl
theorem RF:(Tryz.prog.stopsHeard)=true:=by kernel_rfl
theorem RE:(Tryz.prog.mayEnter)=true:=by kernel_rfl
theorem RD:((Rows.mothTrueRow.lifted == Tryz.prog.liftsFinal))=true:=by kernel_rfl
theorem RB:((Tryz.prog.make == some Rows.mothTrueRow.make))=true:=by kernel_rfl
theorem Rz:((Rows.mothTrueRow.pinned == Rows.mothTrueRow.pinnedBy))=true:=by kernel_rfl
theorem Ry:((Rows.mothTrueRow.veiled == (Tryz.f8.params.toList++Rows.mothTrueSpec.plain.varTypes Tryz.prog++Tryz.f8.resultTypes.toList).any (Tryz.prog.veiledRec ·)))=true:=by kernel_rfl
theorem Rx:(Rows.mothTrueRow.veiledFits Tryz.prog Tryz.f8.params.toList (Tryz.f8.params.toList++Rows.mothTrueSpec.plain.varTypes Tryz.prog++Tryz.f8.resultTypes.toList))=true:=by kernel_rfl
