import Derived.Test.YtmbkabgllafffaaGreatProg
import Derived.Test.YtmbkabgllafffaaGreatRows
import Derived.Conc.Holds
open Nat
open List hiding mem_of_getElem?
open Array hiding mem_of_getElem? mk
set_option linter.unusedVariables false
set_option linter.unusedSimpArgs false
namespace Go.Proofs.YtmbkabgllafffaaGreat
open Go Go.Proofs
theorem VF:(Rows.mothFreezesRow.wf (OpenSpec.ofChange Rows.mothFreezesSpec))=true:=by kernel_rfl
theorem VE:(laidOutB Tryz.prog)=true:=by kernel_rfl
theorem VD:(mapsRowed Tryz.prog)=true:=by kernel_rfl
theorem VC:(Tryz.f4.params.all (Tryz.prog.readableRec ·))=true:=by kernel_rfl
theorem VB:(namedTie Tryz.prog Rows.mothFreezesRow.named Rows.mothFreezesSpec.vars)=true:=by kernel_rfl
theorem VA:((Rows.mothFreezesRow.stops == []))=true:=by kernel_rfl
theorem Vz:((Tryz.prog.stops == []))=true:=by kernel_rfl
theorem Vy:((Rows.mothFreezesRow.knobs == []))=true:=by kernel_rfl
theorem Vx:((Tryz.prog.stopKnobs == []))=true:=by kernel_rfl
theorem Vw:((Rows.mothFreezesRow.inPlace == Tryz.prog.inPlace (4:FuncId)))=true:=by kernel_rfl
theorem TL:((Rows.mothFreezesRow.unfollowed == Tryz.prog.unfollowed (4:FuncId)))=true:=by kernel_rfl
theorem TK:((Rows.mothFreezesRow.recurses == Tryz.prog.recurses (4:FuncId)))=true:=by kernel_rfl
theorem TJ:((Rows.mothFreezesRow.named == Tryz.prog.varsNamed (4:FuncId)))=true:=by kernel_rfl
theorem TG:((Rows.mothFreezesRow.maps == (Tryz.f4.params.toList++Rows.mothFreezesSpec.plain.varTypes Tryz.prog).any (Tryz.prog.mapsRec ·)))=true:=by kernel_rfl
theorem TF:((Rows.mothFreezesRow.ifaces == (Tryz.f4.params.toList++Rows.mothFreezesSpec.plain.varTypes Tryz.prog).any (Tryz.prog.ifacesRec ·)))=true:=by kernel_rfl
theorem TD:((Rows.mothFreezesRow.mapsOut == Tryz.prog.mapsAmong Tryz.f4.resultTypes.toList))=true:=by kernel_rfl
theorem TC:((Rows.mothFreezesRow.loops == (Tryz.f4.params.toList++Rows.mothFreezesSpec.plain.varTypes Tryz.prog).any (Tryz.prog.loopsFrom ·)))=true:=by kernel_rfl
theorem TB:((Rows.mothFreezesRow.wideKeys == (Tryz.f4.params.toList++Rows.mothFreezesSpec.plain.varTypes Tryz.prog++Tryz.f4.resultTypes.toList).any (Tryz.prog.wideKeysFrom ·)))=true:=by kernel_rfl
theorem TA:(Rows.mothFreezesSpec.vars.all (Tryz.prog.varReadable ·))=true:=by kernel_rfl
theorem Tz:(Tryz.f4.resultTypes.all (λt=>Tryz.prog.readableRec t && decide (t < Tryz.prog.types.size)))=true:=by kernel_rfl
theorem Tv:((Rows.mothFreezesRow.ifacesOut == Tryz.f4.resultTypes.toList.any (Tryz.prog.ifacesRec ·)))=true:=by kernel_rfl
theorem Tu:((Rows.mothFreezesRow.loopsOut == Tryz.f4.resultTypes.toList.any (Tryz.prog.loopsFrom ·)))=true:=by kernel_rfl
theorem Tt:((Rows.mothFreezesRow.plainKeys == Tryz.prog.plainKeys))=true:=by kernel_rfl
theorem To:(Rows.mothFreezesRow.shortTexts.isNone)=true:=by kernel_rfl
theorem Tn:(Tryz.prog.stopsHeard)=true:=by kernel_rfl
theorem Tm:(Tryz.prog.mayEnter)=true:=by kernel_rfl
theorem Tj:((Rows.mothFreezesRow.lifted == Tryz.prog.liftsFinal))=true:=by kernel_rfl
theorem Tf:((Tryz.prog.make == some Rows.mothFreezesRow.make))=true:=by kernel_rfl
theorem Td:((Rows.mothFreezesRow.pinned == Rows.mothFreezesRow.pinnedBy))=true:=by kernel_rfl
theorem Ta:((Rows.mothFreezesRow.veiled == (Tryz.f4.params.toList++Rows.mothFreezesSpec.plain.varTypes Tryz.prog++Tryz.f4.resultTypes.toList).any (Tryz.prog.veiledRec ·)))=true:=by kernel_rfl
theorem S9:(Rows.mothFreezesRow.veiledFits Tryz.prog Tryz.f4.params.toList (Tryz.f4.params.toList++Rows.mothFreezesSpec.plain.varTypes Tryz.prog++Tryz.f4.resultTypes.toList))=true:=by kernel_rfl
