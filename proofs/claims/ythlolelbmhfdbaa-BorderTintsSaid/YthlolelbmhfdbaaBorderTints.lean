/- BorderTints: for every input the call returns true, and the arguments read as before. -/
import Derived.Test.YthlolelbmhfdbaaBqorderTints
import Derived.Test.YthlolelbmhfdbaaRows
namespace Go.Proofs.Ythlolelbmhfdbaa.borderTints
open Go Go.AE Go.Proofs Go.ChangeShapes Go.RowKit
set_option maxRecDepth 100000 in
theorem lifted (os : Os) (started : os.Started) (H : Type) (enc : TypeId × Value → H) :
    ReturnsInHanded {} Try.checked os 5 .any (Rows.borderTintsSpec.pre6 enc Try.prog Try.f5 Rows.borderTintsRow.domain false) (Rows.borderTintsSpec.post enc Try.prog Try.f5 false true false false) :=
  handed (C := Try.checked) (fn := Try.f5) (tb := 4) (by kernel_rfl) started (by kernel_rfl) Try.func5
    (ChangeSpec.witness6 (enc := enc) (C := Try.checked) false ⟨#[], #[.agg #[.int .i64 0, .int .i64 0, .slice none 0 0], .slice none 0 0], []⟩ 8 (by kernel_rfl) (by kernel_rfl) (by kernel_rfl) (by kernel_rfl))
    rfl (fun ds h => by
      have hn : Try.f5.params.size = 2 := by kernel_rfl
      rw [hn] at h
      match ds, h with
      | [_, _], _ => rfl)
    (by kernel_rfl) (by kernel_rfl) (by kernel_rfl) Try.underlying4
    (Bs := [_, _]) (⟨inp24, inp27, rfl⟩) fun vs h => by
      obtain ⟨_, _, rfl, ⟨s, hs, rfl⟩, _, _, rfl, ⟨t, ht, rfl⟩, rfl⟩ := h
      exact borderTints_p s none t none
theorem borderTints_holds : Rows.BorderTintsSaid :=
  OpenClaim.holds_of_wide 5 Try.f5 rfl rfl rfl rfl rfl rfl rfl ⟨rfl, rfl, rfl, rfl, rfl⟩ rfl rfl rfl rfl rfl (by kernel_rfl) Try.func5 (by kernel_rfl)
    (of_decide_eq_true (by kernel_rfl)) (by unfold Func.isWrapper; first | (rw [if_pos (by decide +kernel)]; kernel_rfl) | (rw [if_neg (by decide +kernel)]; exact ⟨rfl, rfl⟩))
    (fun os started H enc _ => lifted os started H enc)
end Go.Proofs.Ythlolelbmhfdbaa.borderTints
