import Derived.Test.YtlhalkpppmnnmaaGreatVOF2
open Nat
open List hiding mem_of_getElem?
open Array hiding mem_of_getElem? mk
set_option linter.unusedVariables false
set_option linter.unusedSimpArgs false
namespace Go.Proofs.YtlhalkpppmnnmaaGreat
open K Go Go.Proofs
theorem AY:lb 1200=some true:=by decide+kernel
