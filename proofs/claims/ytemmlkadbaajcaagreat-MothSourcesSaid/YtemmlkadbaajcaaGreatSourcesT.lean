import Derived.Test.YtemmlkadbaajcaaGreatProg
import Derived.Test.YtemmlkadbaajcaaGreatRows
import Derived.Conc.Holds
open Nat
open List hiding mem_of_getElem?
open Array hiding mem_of_getElem? mk
set_option linter.unusedVariables false
set_option linter.unusedSimpArgs false
namespace Go.Proofs.YtemmlkadbaajcaaGreat
open Go Go.Proofs
theorem VT:(Rows.mothSourcesRow.wf (OpenSpec.ofChange Rows.mothSourcesSpec))=true:=by kernel_rfl
theorem VS:(laidOutB Tryz.prog)=true:=by kernel_rfl
theorem VQ:(mapsRowed Tryz.prog)=true:=by kernel_rfl
theorem VP:(Tryz.f3.params.all (Tryz.prog.readableRec ·))=true:=by kernel_rfl
theorem VO:(namedTie Tryz.prog Rows.mothSourcesRow.named Rows.mothSourcesSpec.vars)=true:=by kernel_rfl
theorem VN:((Rows.mothSourcesRow.stops == []))=true:=by kernel_rfl
theorem VM:((Tryz.prog.stops == []))=true:=by kernel_rfl
theorem VL:((Rows.mothSourcesRow.knobs == []))=true:=by kernel_rfl
theorem VK:((Tryz.prog.stopKnobs == []))=true:=by kernel_rfl
theorem VJ:((Rows.mothSourcesRow.inPlace == Tryz.prog.inPlace (3:FuncId)))=true:=by kernel_rfl
theorem Ug:((Rows.mothSourcesRow.unfollowed == Tryz.prog.unfollowed (3:FuncId)))=true:=by kernel_rfl
theorem Uf:((Rows.mothSourcesRow.recurses == Tryz.prog.recurses (3:FuncId)))=true:=by kernel_rfl
theorem Ue:((Rows.mothSourcesRow.named == Tryz.prog.varsNamed (3:FuncId)))=true:=by kernel_rfl
theorem Ud:((Rows.mothSourcesRow.maps == (Tryz.f3.params.toList++Rows.mothSourcesSpec.plain.varTypes Tryz.prog).any (Tryz.prog.mapsRec ·)))=true:=by kernel_rfl
theorem Uc:((Rows.mothSourcesRow.ifaces == (Tryz.f3.params.toList++Rows.mothSourcesSpec.plain.varTypes Tryz.prog).any (Tryz.prog.ifacesRec ·)))=true:=by kernel_rfl
theorem Ub:((Rows.mothSourcesRow.mapsOut == Tryz.prog.mapsAmong Tryz.f3.resultTypes.toList))=true:=by kernel_rfl
theorem Ua:((Rows.mothSourcesRow.loops == (Tryz.f3.params.toList++Rows.mothSourcesSpec.plain.varTypes Tryz.prog).any (Tryz.prog.loopsFrom ·)))=true:=by kernel_rfl
theorem T9:((Rows.mothSourcesRow.wideKeys == (Tryz.f3.params.toList++Rows.mothSourcesSpec.plain.varTypes Tryz.prog++Tryz.f3.resultTypes.toList).any (Tryz.prog.wideKeysFrom ·)))=true:=by kernel_rfl
theorem T8:(Rows.mothSourcesSpec.vars.all (Tryz.prog.varReadable ·))=true:=by kernel_rfl
theorem TZ:(Tryz.f3.resultTypes.all (λt=>Tryz.prog.readableRec t && decide (t < Tryz.prog.types.size)))=true:=by kernel_rfl
theorem TY:((Rows.mothSourcesRow.ifacesOut == Tryz.f3.resultTypes.toList.any (Tryz.prog.ifacesRec ·)))=true:=by kernel_rfl
theorem TX:((Rows.mothSourcesRow.loopsOut == Tryz.f3.resultTypes.toList.any (Tryz.prog.loopsFrom ·)))=true:=by kernel_rfl
theorem TW:((Rows.mothSourcesRow.plainKeys == Tryz.prog.plainKeys))=true:=by kernel_rfl
theorem TV:(Rows.mothSourcesRow.shortTexts.isNone)=true:=by kernel_rfl
theorem TU:(Tryz.prog.stopsHeard)=true:=by kernel_rfl
theorem TS:(Tryz.prog.mayEnter)=true:=by kernel_rfl
theorem TR:((Rows.mothSourcesRow.lifted == Tryz.prog.liftsFinal))=true:=by kernel_rfl
theorem TP:((Tryz.prog.make == some Rows.mothSourcesRow.make))=true:=by kernel_rfl
theorem TO:((Rows.mothSourcesRow.pinned == Rows.mothSourcesRow.pinnedBy))=true:=by kernel_rfl
theorem TN:((Rows.mothSourcesRow.veiled == (Tryz.f3.params.toList++Rows.mothSourcesSpec.plain.varTypes Tryz.prog++Tryz.f3.resultTypes.toList).any (Tryz.prog.veiledRec ·)))=true:=by kernel_rfl
theorem TM:(Rows.mothSourcesRow.veiledFits Tryz.prog Tryz.f3.params.toList (Tryz.f3.params.toList++Rows.mothSourcesSpec.plain.varTypes Tryz.prog++Tryz.f3.resultTypes.toList))=true:=by kernel_rfl
