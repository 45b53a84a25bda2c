/- BorderFour: for every input the call returns true, and the arguments read as before. -/
import Derived.Test.YthlolelbmhfdbaaBqorderFour2
import Derived.Test.YthlolelbmhfdbaaRows
namespace Go.Proofs.Ythlolelbmhfdbaa.borderFour
open Go Go.AE Go.Proofs Go.ChangeShapes Go.RowKit
set_option maxRecDepth 100000 in
theorem lifted (os : Os) (started : os.Started) (H : Type) (enc : TypeId × Value → H) :
    ReturnsInHanded {} Try.checked os 9 .any (Rows.borderFourSpec.pre6 enc Try.prog Try.f9 Rows.borderFourRow.domain false) (Rows.borderFourSpec.post enc Try.prog Try.f9 false true false false) :=
  handed (C := Try.checked) (fn := Try.f9) (tb := 4) (by kernel_rfl) started (by kernel_rfl) Try.func9
    (ChangeSpec.witness6 (enc := enc) (C := Try.checked) false ⟨#[], #[.agg #[.int .i64 0, .int .i64 0, .slice none 0 0], .slice none 0 0], []⟩ 8 (by kernel_rfl) (by kernel_rfl) (by kernel_rfl) (by kernel_rfl))
    rfl (fun ds h => by
      have hn : Try.f9.params.size = 2 := by kernel_rfl
      rw [hn] at h
      match ds, h with
      | [_, _], _ => rfl)
    (by kernel_rfl) (by kernel_rfl) (by kernel_rfl) Try.underlying4
    (Bs := [_, _]) (⟨inp24, inp58, rfl⟩) fun vs h => by
      obtain ⟨_, _, rfl, ⟨s, hs, rfl⟩, _, _, rfl, ⟨x, hx, rfl⟩, rfl⟩ := h
      exact borderFour_p s none x none hx.1
theorem borderFour_holds : Rows.BorderFourSaid :=
  OpenClaim.holds_of_wide 9 Try.f9 rfl rfl rfl rfl rfl rfl rfl ⟨rfl, rfl, rfl, rfl, rfl⟩ rfl rfl rfl rfl rfl (by kernel_rfl) Try.func9 (by kernel_rfl)
    (of_decide_eq_true (by kernel_rfl)) (by unfold Func.isWrapper; first | (rw [if_pos (by decide +kernel)]; kernel_rfl) | (rw [if_neg (by decide +kernel)]; exact ⟨rfl, rfl⟩))
    (fun os started H enc _ => lifted os started H enc)
end Go.Proofs.Ythlolelbmhfdbaa.borderFour
