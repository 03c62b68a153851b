/- Proved: for all arguments, galloonlaw04.ChangeSpares returns true and the arguments read as they did before; goroutines are started, and all have quit. Conditions: none. -/
import Derived.Test.YtopgphikdglphaaGreatB5
import Derived.Test.YtopgphikdglphaaGreatB10
import Derived.Test.YtopgphikdglphaaGreatRows
namespace Go.Proofs.YtopgphikdglphaaGreat
open K Go Go.Proofs Go.ChangeShapes Go.WideShapes Go.ChangeAt Go.RowKit
theorem own:ownKnob Tryz.prog.godebug=none:=by kernel_rfl
theorem FC:laidOutB Tryz.prog=true:=by kernel_rfl
theorem sJ:Tryz.prog.cellsOf 3=1:=by kernel_rfl
theorem K6:Tryz.prog.cellsOf 22=1:=by kernel_rfl
theorem K5:Tryz.prog.cellsOf 23=1:=by kernel_rfl
theorem vL:Tryz.prog.cellsOf 24=1:=by kernel_rfl
theorem K4:Tryz.prog.cellsOf 45=5:=by kernel_rfl
theorem K3:Tryz.prog.cellsOf 47=3:=by kernel_rfl
theorem HT:MT Tryz.prog (.slice (.int .i64)) (.inl 24):=⟨3,Tryz.underlying24,sJ,Tryz.underlying3⟩
theorem O2:MT Tryz.prog aw (.inl 47):=⟨_,Tryz.underlying47,by kernel_rfl,rfl,vL,HT,.inr ⟨rfl,sJ,Tryz.underlying3,.inl ⟨_,rfl,rfl,sJ,Tryz.underlying3⟩⟩⟩
theorem O5:MT Tryz.prog (.slice aw) (.inl 23):=⟨47,Tryz.underlying23,K3,O2⟩
theorem O3:MT Tryz.prog aJ (.inl 45):=⟨_,Tryz.underlying45,by kernel_rfl,rfl,vL,HT,.inr ⟨rfl,sJ,Tryz.underlying3,.inr ⟨rfl,sJ,Tryz.underlying3,.inr ⟨rfl,sJ,Tryz.underlying3,.inl ⟨_,rfl,rfl,sJ,Tryz.underlying3⟩⟩⟩⟩⟩
theorem O6:MT Tryz.prog (.slice aJ) (.inl 22):=⟨45,Tryz.underlying22,K4,O3⟩
theorem O4:MT Tryz.prog ag (.inl 26):=⟨_,Tryz.underlying26,by kernel_rfl,rfl,K6,O6,.inr ⟨rfl,K5,O5,.inr ⟨rfl,vL,HT,.inl ⟨_,rfl,rfl,vL,HT⟩⟩⟩⟩
set_option maxRecDepth 100000 in
theorem MY(os:Os)(started:os.Started)(H:Type)(enc:TypeId×Value→H):
 ReturnsInLeavingWide {} Tryz.checked os 3 .any (Rows.changeSparesSpec.pre6 enc Tryz.prog Tryz.f3 Rows.changeSparesRow.domain false) (Rows.changeSparesSpec.post enc Tryz.prog Tryz.f3 false true false false):=by
 refine returnsInLeavingWide_of_change_sized (C:=Tryz.checked) own started Tryz.func3
  (ChangeSpec.witness6 (enc:=enc) (C:=Tryz.checked) false ⟨#[], #[.agg #[.slice none 0 0,.slice none 0 0,.slice none 0 0,.slice none 0 0],.int .i64 0,.slice none 0 0],[]⟩ 8 (by kernel_rfl) (by kernel_rfl) (by kernel_rfl) (by kernel_rfl)) ?_
 intro W base args ds gs before hval hW _ _ _
 refine JA (by kernel_rfl) ?_
 refine FZ (s:=Rows.changeSparesSpec) [(26,ag),(3,(.int .i64)),(24,(.slice (.int .i64)))] (by rw [Tryz.params3];rfl) rfl Tryz.underlying4 ?_ FC ?_ ?_ rfl ?_ W base args ds gs before hval hW
 ·
  intro p hp;simp only [List.mem_cons,List.not_mem_nil,or_false] at hp;rcases hp with rfl |rfl |rfl
  ·exact O4
  ·exact Tryz.underlying3
  ·exact HT
 ·
  intro T hT;simp only [List.map_cons,List.map_nil,List.mem_cons,List.not_mem_nil,or_false] at hT;rcases hT with rfl |rfl |rfl
  ·exact⟨by kernel_rfl,of_decide_eq_true (by kernel_rfl)⟩
  ·exact⟨by kernel_rfl,of_decide_eq_true (by kernel_rfl)⟩
  ·exact⟨by kernel_rfl,of_decide_eq_true (by kernel_rfl)⟩
 ·
  rintro ds hd;obtain⟨d0,ds,rfl⟩:=List.exists_cons_of_length_eq_add_one (by simpa using hd:ds.length=2+1);obtain⟨d1,ds,rfl⟩:=List.exists_cons_of_length_eq_add_one (by simpa using hd:ds.length=1+1);obtain⟨d2,ds,rfl⟩:=List.exists_cons_of_length_eq_add_one (by simpa using hd:ds.length=0+1);have:ds=[]:=List.eq_nil_of_length_eq_zero (by simpa using hd);subst this;rfl
 ·
  rintro l ⟨a0,l0,rfl,a1,l1,rfl,a2,l2,rfl,rfl⟩;exact Gu 1 rfl (rH 30000 a0 a1 a2 true (CO (k:=30000) (by decide) E2 zS a0 a1 a2))
theorem spares_holds:Rows.ChangeSparesSaid:=
 OpenClaim.holds_of_wide_leaving 3 Tryz.f3 rfl rfl rfl rfl rfl rfl rfl ⟨rfl,rfl,rfl,rfl,rfl⟩ rfl rfl rfl rfl rfl (by kernel_rfl) Tryz.func3 (by kernel_rfl)
  (of_decide_eq_true (by kernel_rfl)) (by unfold Func.isWrapper;rw [if_neg (by decide+kernel)];exact⟨rfl,rfl⟩)
  (fun os started H enc _=>MY os started H enc)
#print axioms spares_holds
end Go.Proofs.YtopgphikdglphaaGreat
