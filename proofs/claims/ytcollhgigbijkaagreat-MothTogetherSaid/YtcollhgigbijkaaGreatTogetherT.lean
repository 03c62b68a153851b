import Derived.Test.YtcollhgigbijkaaGreatProg
import Derived.Test.YtcollhgigbijkaaGreatRows
import Derived.Conc.Holds
open Nat
open List hiding mem_of_getElem?
open Array hiding mem_of_getElem? mk
set_option linter.unusedVariables false
set_option linter.unusedSimpArgs false
namespace Go.Proofs.YtcollhgigbijkaaGreat
open Go Go.Proofs
theorem QA:(Rows.mothTogetherRow.wf (OpenSpec.ofChange Rows.mothTogetherSpec))=true:=by kernel_rfl
theorem Qz:(laidOutB Tryz.prog)=true:=by kernel_rfl
theorem Qy:(mapsRowed Tryz.prog)=true:=by kernel_rfl
theorem Qx:(Tryz.f8.params.all (Tryz.prog.readableRec ·))=true:=by kernel_rfl
theorem Qw:(namedTie Tryz.prog Rows.mothTogetherRow.named Rows.mothTogetherSpec.vars)=true:=by kernel_rfl
theorem Qv:((Rows.mothTogetherRow.stops == []))=true:=by kernel_rfl
theorem Qu:((Tryz.prog.stops == []))=true:=by kernel_rfl
theorem Qs:((Rows.mothTogetherRow.knobs == []))=true:=by kernel_rfl
theorem Qq:((Tryz.prog.stopKnobs == []))=true:=by kernel_rfl
theorem Qp:((Rows.mothTogetherRow.inPlace == Tryz.prog.inPlace (8:FuncId)))=true:=by kernel_rfl
theorem OK:((Rows.mothTogetherRow.unfollowed == Tryz.prog.unfollowed (8:FuncId)))=true:=by kernel_rfl
theorem OJ:((Rows.mothTogetherRow.recurses == Tryz.prog.recurses (8:FuncId)))=true:=by kernel_rfl
theorem OI:((Rows.mothTogetherRow.named == Tryz.prog.varsNamed (8:FuncId)))=true:=by kernel_rfl
theorem OH:((Rows.mothTogetherRow.maps == (Tryz.f8.params.toList++Rows.mothTogetherSpec.plain.varTypes Tryz.prog).any (Tryz.prog.mapsRec ·)))=true:=by kernel_rfl
theorem OG:((Rows.mothTogetherRow.ifaces == (Tryz.f8.params.toList++Rows.mothTogetherSpec.plain.varTypes Tryz.prog).any (Tryz.prog.ifacesRec ·)))=true:=by kernel_rfl
theorem OF:((Rows.mothTogetherRow.mapsOut == Tryz.prog.mapsAmong Tryz.f8.resultTypes.toList))=true:=by kernel_rfl
theorem OE:((Rows.mothTogetherRow.loops == (Tryz.f8.params.toList++Rows.mothTogetherSpec.plain.varTypes Tryz.prog).any (Tryz.prog.loopsFrom ·)))=true:=by kernel_rfl
theorem OD:((Rows.mothTogetherRow.wideKeys == (Tryz.f8.params.toList++Rows.mothTogetherSpec.plain.varTypes Tryz.prog++Tryz.f8.resultTypes.toList).any (Tryz.prog.wideKeysFrom ·)))=true:=by kernel_rfl
theorem OC:(Rows.mothTogetherSpec.vars.all (Tryz.prog.varReadable ·))=true:=by kernel_rfl
theorem OB:(Tryz.f8.resultTypes.all (λt=>Tryz.prog.readableRec t && decide (t < Tryz.prog.types.size)))=true:=by kernel_rfl
theorem OA:((Rows.mothTogetherRow.ifacesOut == Tryz.f8.resultTypes.toList.any (Tryz.prog.ifacesRec ·)))=true:=by kernel_rfl
theorem Oz:((Rows.mothTogetherRow.loopsOut == Tryz.f8.resultTypes.toList.any (Tryz.prog.loopsFrom ·)))=true:=by kernel_rfl
theorem Oy:((Rows.mothTogetherRow.plainKeys == Tryz.prog.plainKeys))=true:=by kernel_rfl
theorem Ox:(Rows.mothTogetherRow.shortTexts.isNone)=true:=by kernel_rfl
theorem Ov:(Tryz.prog.stopsHeard)=true:=by kernel_rfl
theorem Ou:(Tryz.prog.mayEnter)=true:=by kernel_rfl
theorem Ot:((Rows.mothTogetherRow.lifted == Tryz.prog.liftsFinal))=true:=by kernel_rfl
theorem Oq:((Tryz.prog.make == some Rows.mothTogetherRow.make))=true:=by kernel_rfl
theorem Oo:((Rows.mothTogetherRow.pinned == Rows.mothTogetherRow.pinnedBy))=true:=by kernel_rfl
theorem On:((Rows.mothTogetherRow.veiled == (Tryz.f8.params.toList++Rows.mothTogetherSpec.plain.varTypes Tryz.prog++Tryz.f8.resultTypes.toList).any (Tryz.prog.veiledRec ·)))=true:=by kernel_rfl
theorem Om:(Rows.mothTogetherRow.veiledFits Tryz.prog Tryz.f8.params.toList (Tryz.f8.params.toList++Rows.mothTogetherSpec.plain.varTypes Tryz.prog++Tryz.f8.resultTypes.toList))=true:=by kernel_rfl
