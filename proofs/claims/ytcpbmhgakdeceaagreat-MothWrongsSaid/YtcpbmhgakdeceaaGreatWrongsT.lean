import Derived.Test.YtcpbmhgakdeceaaGreatProg
import Derived.Test.YtcpbmhgakdeceaaGreatRows
import Derived.Conc.Holds
open Nat
open List hiding mem_of_getElem?
open Array hiding mem_of_getElem? mk
set_option linter.unusedVariables false
set_option linter.unusedSimpArgs false
namespace Go.Proofs.YtcpbmhgakdeceaaGreat
open Go Go.Proofs
theorem WI:(Rows.mothWrongsRow.wf (OpenSpec.ofChange Rows.mothWrongsSpec))=true:=by kernel_rfl
theorem WH:(laidOutB Tryz.prog)=true:=by kernel_rfl
theorem WG:(mapsRowed Tryz.prog)=true:=by kernel_rfl
theorem WE:(Tryz.f3.params.all (Tryz.prog.readableRec ·))=true:=by kernel_rfl
theorem WC:(namedTie Tryz.prog Rows.mothWrongsRow.named Rows.mothWrongsSpec.vars)=true:=by kernel_rfl
theorem WB:((Rows.mothWrongsRow.stops == []))=true:=by kernel_rfl
theorem WA:((Tryz.prog.stops == []))=true:=by kernel_rfl
theorem Wz:((Rows.mothWrongsRow.knobs == []))=true:=by kernel_rfl
theorem Wy:((Tryz.prog.stopKnobs == []))=true:=by kernel_rfl
theorem Wx:((Rows.mothWrongsRow.inPlace == Tryz.prog.inPlace (3:FuncId)))=true:=by kernel_rfl
theorem UQ:((Rows.mothWrongsRow.unfollowed == Tryz.prog.unfollowed (3:FuncId)))=true:=by kernel_rfl
theorem UP:((Rows.mothWrongsRow.recurses == Tryz.prog.recurses (3:FuncId)))=true:=by kernel_rfl
theorem UO:((Rows.mothWrongsRow.named == Tryz.prog.varsNamed (3:FuncId)))=true:=by kernel_rfl
theorem UN:((Rows.mothWrongsRow.maps == (Tryz.f3.params.toList++Rows.mothWrongsSpec.plain.varTypes Tryz.prog).any (Tryz.prog.mapsRec ·)))=true:=by kernel_rfl
theorem UM:((Rows.mothWrongsRow.ifaces == (Tryz.f3.params.toList++Rows.mothWrongsSpec.plain.varTypes Tryz.prog).any (Tryz.prog.ifacesRec ·)))=true:=by kernel_rfl
theorem UL:((Rows.mothWrongsRow.mapsOut == Tryz.prog.mapsAmong Tryz.f3.resultTypes.toList))=true:=by kernel_rfl
theorem UK:((Rows.mothWrongsRow.loops == (Tryz.f3.params.toList++Rows.mothWrongsSpec.plain.varTypes Tryz.prog).any (Tryz.prog.loopsFrom ·)))=true:=by kernel_rfl
theorem UJ:((Rows.mothWrongsRow.wideKeys == (Tryz.f3.params.toList++Rows.mothWrongsSpec.plain.varTypes Tryz.prog++Tryz.f3.resultTypes.toList).any (Tryz.prog.wideKeysFrom ·)))=true:=by kernel_rfl
theorem UI:(Rows.mothWrongsSpec.vars.all (Tryz.prog.varReadable ·))=true:=by kernel_rfl
theorem UH:(Tryz.f3.resultTypes.all (λt=>Tryz.prog.readableRec t && decide (t < Tryz.prog.types.size)))=true:=by kernel_rfl
theorem UG:((Rows.mothWrongsRow.ifacesOut == Tryz.f3.resultTypes.toList.any (Tryz.prog.ifacesRec ·)))=true:=by kernel_rfl
theorem UF:((Rows.mothWrongsRow.loopsOut == Tryz.f3.resultTypes.toList.any (Tryz.prog.loopsFrom ·)))=true:=by kernel_rfl
theorem UE:((Rows.mothWrongsRow.plainKeys == Tryz.prog.plainKeys))=true:=by kernel_rfl
theorem UD:(Rows.mothWrongsRow.shortTexts.isNone)=true:=by kernel_rfl
theorem UC:(Tryz.prog.stopsHeard)=true:=by kernel_rfl
theorem UB:(Tryz.prog.mayEnter)=true:=by kernel_rfl
theorem UA:((Rows.mothWrongsRow.lifted == Tryz.prog.liftsFinal))=true:=by kernel_rfl
theorem Uz:((Tryz.prog.make == some Rows.mothWrongsRow.make))=true:=by kernel_rfl
theorem Uy:((Rows.mothWrongsRow.pinned == Rows.mothWrongsRow.pinnedBy))=true:=by kernel_rfl
theorem Ux:((Rows.mothWrongsRow.veiled == (Tryz.f3.params.toList++Rows.mothWrongsSpec.plain.varTypes Tryz.prog++Tryz.f3.resultTypes.toList).any (Tryz.prog.veiledRec ·)))=true:=by kernel_rfl
theorem Uw:(Rows.mothWrongsRow.veiledFits Tryz.prog Tryz.f3.params.toList (Tryz.f3.params.toList++Rows.mothWrongsSpec.plain.varTypes Tryz.prog++Tryz.f3.resultTypes.toList))=true:=by kernel_rfl
