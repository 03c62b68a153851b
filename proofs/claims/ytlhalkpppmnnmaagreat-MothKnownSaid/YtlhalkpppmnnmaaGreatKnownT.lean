import Derived.Test.YtlhalkpppmnnmaaGreatProg
import Derived.Test.YtlhalkpppmnnmaaGreatRows
import Derived.Conc.Holds
open Nat
open List hiding mem_of_getElem?
open Array hiding mem_of_getElem? mk
set_option linter.unusedVariables false
set_option linter.unusedSimpArgs false
namespace Go.Proofs.YtlhalkpppmnnmaaGreat
open Go Go.Proofs
theorem N3:(Rows.mothKnownRow.wf (OpenSpec.ofChange Rows.mothKnownSpec))=true:=by kernel_rfl
theorem NZ:(laidOutB Tryz.prog)=true:=by kernel_rfl
theorem NY:(mapsRowed Tryz.prog)=true:=by kernel_rfl
theorem NX:(Tryz.f3.params.all (Tryz.prog.readableRec ·))=true:=by kernel_rfl
theorem NW:(namedTie Tryz.prog Rows.mothKnownRow.named Rows.mothKnownSpec.vars)=true:=by kernel_rfl
theorem NV:((Rows.mothKnownRow.stops == []))=true:=by kernel_rfl
theorem NU:((Tryz.prog.stops == []))=true:=by kernel_rfl
theorem NT:((Rows.mothKnownRow.knobs == []))=true:=by kernel_rfl
theorem NS:((Tryz.prog.stopKnobs == []))=true:=by kernel_rfl
theorem NR:((Rows.mothKnownRow.inPlace == Tryz.prog.inPlace (3:FuncId)))=true:=by kernel_rfl
theorem LL:((Rows.mothKnownRow.unfollowed == Tryz.prog.unfollowed (3:FuncId)))=true:=by kernel_rfl
theorem LK:((Rows.mothKnownRow.recurses == Tryz.prog.recurses (3:FuncId)))=true:=by kernel_rfl
theorem LJ:((Rows.mothKnownRow.named == Tryz.prog.varsNamed (3:FuncId)))=true:=by kernel_rfl
theorem LI:((Rows.mothKnownRow.maps == (Tryz.f3.params.toList++Rows.mothKnownSpec.plain.varTypes Tryz.prog).any (Tryz.prog.mapsRec ·)))=true:=by kernel_rfl
theorem LH:((Rows.mothKnownRow.ifaces == (Tryz.f3.params.toList++Rows.mothKnownSpec.plain.varTypes Tryz.prog).any (Tryz.prog.ifacesRec ·)))=true:=by kernel_rfl
theorem LG:((Rows.mothKnownRow.mapsOut == Tryz.prog.mapsAmong Tryz.f3.resultTypes.toList))=true:=by kernel_rfl
theorem LF:((Rows.mothKnownRow.loops == (Tryz.f3.params.toList++Rows.mothKnownSpec.plain.varTypes Tryz.prog).any (Tryz.prog.loopsFrom ·)))=true:=by kernel_rfl
theorem LE:((Rows.mothKnownRow.wideKeys == (Tryz.f3.params.toList++Rows.mothKnownSpec.plain.varTypes Tryz.prog++Tryz.f3.resultTypes.toList).any (Tryz.prog.wideKeysFrom ·)))=true:=by kernel_rfl
theorem LD:(Rows.mothKnownSpec.vars.all (Tryz.prog.varReadable ·))=true:=by kernel_rfl
theorem LC:(Tryz.f3.resultTypes.all (λt=>Tryz.prog.readableRec t && decide (t < Tryz.prog.types.size)))=true:=by kernel_rfl
theorem LA:((Rows.mothKnownRow.ifacesOut == Tryz.f3.resultTypes.toList.any (Tryz.prog.ifacesRec ·)))=true:=by kernel_rfl
theorem Ly:((Rows.mothKnownRow.loopsOut == Tryz.f3.resultTypes.toList.any (Tryz.prog.loopsFrom ·)))=true:=by kernel_rfl
theorem Lx:((Rows.mothKnownRow.plainKeys == Tryz.prog.plainKeys))=true:=by kernel_rfl
theorem Lu:(Rows.mothKnownRow.shortTexts.isNone)=true:=by kernel_rfl
theorem Lt:(Tryz.prog.stopsHeard)=true:=by kernel_rfl
theorem Ls:(Tryz.prog.mayEnter)=true:=by kernel_rfl
theorem Lr:((Rows.mothKnownRow.lifted == Tryz.prog.liftsFinal))=true:=by kernel_rfl
theorem Lq:((Tryz.prog.make == some Rows.mothKnownRow.make))=true:=by kernel_rfl
theorem Lp:((Rows.mothKnownRow.pinned == Rows.mothKnownRow.pinnedBy))=true:=by kernel_rfl
theorem Lo:((Rows.mothKnownRow.veiled == (Tryz.f3.params.toList++Rows.mothKnownSpec.plain.varTypes Tryz.prog++Tryz.f3.resultTypes.toList).any (Tryz.prog.veiledRec ·)))=true:=by kernel_rfl
theorem Ln:(Rows.mothKnownRow.veiledFits Tryz.prog Tryz.f3.params.toList (Tryz.f3.params.toList++Rows.mothKnownSpec.plain.varTypes Tryz.prog++Tryz.f3.resultTypes.toList))=true:=by kernel_rfl
