/- PlateForms: for every input the call returns true, and the arguments read as before. -/
import Derived.Test.YthoodfiacfmhgaaM9
import Derived.Test.YthoodfiacfmhgaaRows
namespace Go.Proofs.Ythoodfiacfmhgaa.plateForms
open Go Go.AE Go.Proofs Go.ChangeShapes Go.RowKit
set_option maxRecDepth 100000 in
theorem lifted (os : Os) (started : os.Started) (H : Type) (enc : TypeId × Value → H) :
    ReturnsInHanded {} Try.checked os 7 .any (Rows.plateFormsSpec.pre6 enc Try.prog Try.f7 Rows.plateFormsRow.domain false) (Rows.plateFormsSpec.post enc Try.prog Try.f7 false true false false) :=
  handed (C := Try.checked) (fn := Try.f7) (tb := 4) (by kernel_rfl) started (by kernel_rfl) Try.func7
    (ChangeSpec.witness6 (enc := enc) (C := Try.checked) false ⟨#[], #[.agg #[.int .i64 0, .slice none 0 0], .agg #[.int .i64 0, .slice none 0 0], .slice none 0 0], []⟩ 8 (by kernel_rfl) (by kernel_rfl) (by kernel_rfl) (by kernel_rfl))
    rfl (fun ds h => by
      have hn : Try.f7.params.size = 3 := by kernel_rfl
      rw [hn] at h
      match ds, h with
      | [_, _, _], _ => rfl)
    (by kernel_rfl) (by kernel_rfl) (by kernel_rfl) Try.underlying4
    (Bs := [_, _, _]) (⟨inp24, inp24, inp22, rfl⟩) fun vs h => by
      obtain ⟨_, _, rfl, ⟨p, hp, rfl⟩, _, _, rfl, ⟨q, hq, rfl⟩, _, _, rfl, ⟨k, hk, rfl⟩, rfl⟩ := h
      exact plateForms_p p q none none k none
theorem plateForms_holds : Rows.PlateFormsSaid :=
  OpenClaim.holds_of_wide 7 Try.f7 rfl rfl rfl rfl rfl rfl rfl ⟨rfl, rfl, rfl, rfl, rfl⟩ rfl rfl rfl rfl rfl (by kernel_rfl) Try.func7 (by kernel_rfl)
    (of_decide_eq_true (by kernel_rfl)) (by unfold Func.isWrapper; first | (rw [if_pos (by decide +kernel)]; kernel_rfl) | (rw [if_neg (by decide +kernel)]; exact ⟨rfl, rfl⟩))
    (fun os started H enc _ => lifted os started H enc)
end Go.Proofs.Ythoodfiacfmhgaa.plateForms
